import Derived.Test.YgvaawGreatRw
set_option maxRecDepth 100000
set_option maxHeartbeats 4000000
set_option linter.unusedSimpArgs false
set_option linter.unusedVariables false
namespace Go.Proofs.YgvaawGreat
open Go
def P_nat : Cp Nat := fun H c x => ∃ v, c = [v] ∧ NV H v x ∧ x < W256
theorem mono_nat : Mono P_nat := fun _ _ _ _ hl ⟨v, h1, h2, h3⟩ => ⟨v, h1, h2.mono hl, h3⟩
theorem mc_nat : MC P_nat := ⟨mono_nat⟩
theorem bL_full (l : List Nat) : spl (bL (List.replicate l.length 0)).toArray 0 (bL (l.take l.length)) = (bL l).toArray := by
  rw [List.take_length]; exact spl_full _ _ (by simp [length_bL])
theorem yp_bytesOf (s0 c : Nat) (a : Option Addr) (l : List Nat) (w : World) (H : Store) (hF : Fz w H) (hW : WV s0 w (.slice a l.length c) l) (hs0 : s0 ≤ w.heap.size) (h48 : l.length ≤ 1099511627776) :
    Ret 26 [.slice a l.length c] w (fun v w' => ∃ H', Go No w H w' H' ∧ BV H' v l) := by
  have hF0 := hF
  refine enter (n := 13) Hvaa.func26 rfl rfl (Nat.le_of_ble_eq_true rfl) ?_
  have U := Up.refl w
  have G : Go (No) w H w H := Go.refl hF
  refine c_seq (fun K1 hK1 => ?_)
  refine c_region ?_
  refine l_step y_assignC ?_
  refine l_nil ?_
  refine hK1 _ _ ?_
  refine fg1 0 (gS rfl g0) (fun g => ?_)
  refine c_seq (fun K2 hK2 => ?_)
  refine c_seq (fun K3 hK3 => ?_)
  refine c_region ?_
  refine l_step (y_moveV (et g0 rfl)) ?_
  refine l_step (y_eqlNS Hvaa.underlying38 (et g0 rfl) rfl) ?_
  refine l_nil ?_
  refine hK3 _ _ ?_
  refine fg2 0 5 (gS rfl (gS rfl g0)) g0 (fun g => ?_)
  refine c_cond (et g0 rfl) (fun cB1 => ?_) (fun cB1 => ?_)
  · skip
    
    have h0 := hW.empty0 cB1
    refine c_seq (fun K5 hK5 => ?_)
    refine c_region ?_
    refine l_step y_assignC ?_
    refine l_nil ?_
    refine hK5 _ _ ?_
    refine fg1 2 g0 (fun g => ?_)
    refine c_ret ?_
    refine ret1 rfl (res_tmp (et g0 rfl)) ?_
    exact ⟨_, G, by rw [h0]; exact BV.nil _⟩
  · skip
    
    refine c_skip ?_
    refine hK2 _ _ ?_
    refine fg1 0 (gS rfl g0) (fun g => ?_)
    refine c_seq (fun K6 hK6 => ?_)
    refine c_region ?_
    refine l_step (y_moveV (et g0 rfl)) ?_
    refine l_step (y_len Hvaa.underlying38 (et g0 rfl)) ?_
    refine l_eff (e_make Hvaa.underlying38 sz_5 zr_5 by_5 (et g0 rfl) (et g0 rfl) (by omega) (by omega)) (fun v7 w7 h7 => ?_)
    obtain ⟨b7, rfl, n7⟩ := h7
    have f7 : w.heap.size ≤ b7 := Nat.le_trans U.size n7.fresh
    have nb7 := hF.nb n7.fresh
    replace G := G.tr (Go.ofUp hF n7.up)
    replace hF := hF.up n7.up
    replace hW := hW.up n7.up
    replace U := U.tr n7.up
    have k7 := mzB n7.blk
    refine l_step (y_assignV (et g0 rfl)) ?_
    refine l_nil ?_
    refine hK6 _ _ ?_
    refine fg2 0 3 (gS rfl (gS rfl (gS rfl (gS rfl g0)))) g0 (fun g => ?_)
    refine c_seq (fun K8 hK8 => ?_)
    refine c_region ?_
    refine l_step (y_moveV (et g0 rfl)) ?_
    refine l_step (y_moveV (et (gS rfl (gS rfl g0)) rfl)) ?_
    refine l_eff (e_copyW Hvaa.underlying38 (et (gS rfl g0) rfl) (et g0 rfl) hW k7 (by simp only [List.size_toArray, length_bL, List.length_replicate]; omega)) (fun v9 w9 h9 => ?_)
    obtain ⟨rfl, x9⟩ := h9
    replace G := G.chs x9.ch (by intro b hb; first | omega | exact .inl hb | (simp at hb ⊢; omega)) (by intro q hq; first | (subst hq; assumption) | (simp only at hq; first | (subst hq; assumption) | (rcases hq with rfl | rfl <;> assumption)))
    replace hF := G.fz
    replace hW := hW.ch x9.ch (by first | omega | (intro q hq; omega))
    replace k7 := x9.blk
    replace U := U.cc x9.ch (by intro b hb; first | exact hb ▸ f7 | omega)
    rw [bL_full] at k7
    refine l_nil ?_
    refine hK8 _ _ ?_
    refine fg1 3 (gS rfl (gS rfl (gS rfl g0))) (fun g => ?_)
    refine c_seq (fun K10 hK10 => ?_)
    refine c_region ?_
    refine l_step (y_moveV (et g0 rfl)) ?_
    refine l_step (y_assignV (et g0 rfl)) ?_
    refine l_nil ?_
    refine hK10 _ _ ?_
    refine fg1 2 g0 (fun g => ?_)
    refine c_ret ?_
    refine ret1 rfl (res_tmp (et g0 rfl)) ?_
    exact OB.bv ⟨hW.dig, .inr ⟨_, rfl, f7, k7.lt, by omega, k7⟩⟩ G hF0
theorem yp_bytes {w : World} {H : Store} {v1 : Value} {l : List Nat} (hF : Fz w H) (h : BV H v1 l) (h48 : l.length ≤ 1099511627776) : Ret 26 [v1] w (fun v w' => ∃ H', Go No w H w' H' ∧ BV H' v l) := by
  obtain ⟨a, c, rfl, _⟩ := (h.wv hF).val
  exact yp_bytesOf _ c a l w H hF (h.wv hF) (Nat.le_refl _) h48
theorem yp_natOf {w : World} {H : Store} {v1 : Value} {x : Nat} (hF : Fz w H) (h1 : NV H v1 x) (s1 : x < 256 ^ 32) :
    Ret 217 [v1] w (fun v w' => ∃ H', Go No w H w' H' ∧ NV H' v x) := by
  obtain ⟨l, hl, e1, e2⟩ := h1.ex
  have hl48 : l.length ≤ 1099511627776 := Nat.le_trans (tr_len e2 (by rw [e1]; exact s1)) (by decide)
  refine enter (n := 5) Hvaa.func217 rfl rfl (Nat.le_of_ble_eq_true rfl) ?_
  have U := Up.refl w
  have G : Go (No) w H w H := Go.refl hF
  refine c_seq (fun K1 hK1 => ?_)
  refine c_region ?_
  refine l_step y_assignC ?_
  refine l_nil ?_
  refine hK1 _ _ ?_
  refine fg1 0 (gS rfl g0) (fun g => ?_)
  refine c_seq (fun K2 hK2 => ?_)
  refine c_region ?_
  refine l_step (y_moveV (et g0 rfl)) ?_
  refine l_eff (e_callV cal_26 (aC (et g0 rfl) aN) (yp_bytes hF hl hl48)) (fun v3 w3 h3 => ?_)
  obtain ⟨H3, g3, b3⟩ := h3
  have hlew3 := g3.le
  replace h1 := h1.mono hlew3
  replace hl := hl.mono hlew3
  replace U := U.tr g3.up
  replace G := G.tr g3
  replace hF := g3.fz
  refine l_step (y_assignV (et g0 rfl)) ?_
  refine l_nil ?_
  refine hK2 _ _ ?_
  refine fg1 2 g0 (fun g => ?_)
  refine c_ret ?_
  refine ret1 rfl (res_tmp (et g0 rfl)) ?_
  exact ⟨_, G, ⟨l, b3, e1, e2⟩⟩
def cutN (l : List Nat) (off n : Nat) : List Nat := (l.drop off).take n ++ List.replicate (n - (l.length - off)) 0
theorem len_cut (l : List Nat) (off n : Nat) : (cutN l off n).length = n := by simp [cutN]; omega
theorem dig_cut {l : List Nat} (h : Dig 256 l) (off n : Nat) : Dig 256 (cutN l off n) := ((h.drop off).take n).app (Dig.rep 256 _ (by decide))
theorem cut_none {l : List Nat} {off : Nat} (n : Nat) (h : ¬ off < l.length) : cutN l off n = List.replicate n 0 := by
  rw [cutN, List.drop_eq_nil_of_le (by omega), List.take_nil, List.nil_append, show l.length - off = 0 by omega]; rfl
theorem spl_head (l m : List Value) (k : Nat) (h : k ≤ l.length) (hm : m.length = k) : spl l.toArray 0 m = (m ++ l.drop k).toArray := by
  apply Array.ext_getElem?
  intro i
  rw [get_spl _ _ _ _ (by simp; omega)]
  by_cases hi : i < k
  · rw [if_pos ⟨Nat.zero_le _, by omega⟩, Nat.sub_zero, List.getElem?_toArray, List.getElem?_append_left (by omega)]
  · rw [if_neg (by omega), List.getElem?_toArray, List.getElem?_toArray, List.getElem?_append_right (by omega), List.getElem?_drop, hm, show k + (i - k) = i by omega]
theorem cut_spl (l : List Nat) (off n : Nat) : spl (bL (List.replicate n 0)).toArray 0 (bL ((l.drop off).take n)) = (bL (cutN l off n)).toArray := by
  rw [spl_head _ _ (min n (l.length - off)) (by simp [length_bL]; omega) (by simp [length_bL])]
  rw [cutN, bL_append, bL_drop]
  congr 2
  rw [List.drop_replicate]
  congr 2
  omega
theorem WV.drop0 {s0 c k b o : Nat} {w : World} {l : List Nat} (h : WV s0 w (.slice (some ⟨b, o, none⟩) l.length c) l) (hk : k < l.length) : WV s0 w (.slice (some ⟨b, o + k * 1, none⟩) (l.length - k) (c - k)) (l.drop k) := by
  refine ⟨h.dig.drop k, ?_⟩
  rcases h.at' with ⟨h1, h2⟩ | ⟨b, o, q, h1, h2, h3, h4, h5⟩
  · rw [h2] at hk; exact absurd hk (Nat.not_lt_zero _)
  · cases h1
    refine .inr ⟨b, o + k * 1, c - k, by rw [List.length_drop], h2, by rw [List.length_drop]; omega, by omega, ?_⟩
    intro i v hv
    have := h5 (k + i) v (by rw [← bL_drop, List.getElem?_drop] at hv; exact hv)
    rw [Nat.mul_one, Nat.add_assoc]; exact this
theorem yp_cut0 (s0 c : Nat) (a : Option Addr) (l : List Nat) {w : World} {H : Store} {v1 v2 : Value} {x y : Nat} (hF : Fz w H) (hW : WV s0 w (.slice a l.length c) l) (hs0 : s0 ≤ w.heap.size) (h48 : l.length ≤ 1099511627776) (h1 : NV H v1 x) (h2 : NV H v2 y) (s1 : Sm x) (hy : y ≤ 1099511627776) (s2 : y < 256 ^ 40) :
    Ret 146 [.slice a l.length c, v1, v2] w (fun v w' => ∃ H', Go No w H w' H' ∧ BV H' v (cutN l x y)) := by
  have hF0 := hF
  obtain ⟨_, _, e_, hc0, hc63⟩ := hW.val
  have e_ : _ ∧ _ := ⟨congrArg (fun v => match v with | Value.slice _ _ c => c | _ => 0) e_, trivial⟩
  simp only at e_
  rw [← e_.1] at hc0 hc63
  refine enter (n := 27) Hvaa.func146 rfl rfl (Nat.le_of_ble_eq_true rfl) ?_
  have U := Up.refl w
  have G : Go (No) w H w H := Go.refl hF
  refine c_seq (fun K1 hK1 => ?_)
  refine c_region ?_
  refine l_step y_assignC ?_
  refine l_nil ?_
  refine hK1 _ _ ?_
  refine fg3 2 1 0 (gS rfl (gS rfl (gS rfl g0))) (gS rfl (gS rfl g0)) (gS rfl g0) (fun g => ?_)
  refine c_seq (fun K2 hK2 => ?_)
  refine c_region ?_
  refine l_step (y_moveV (et (gS rfl (gS rfl g0)) rfl)) ?_
  refine l_eff (e_callV cal_24 (aC (et g0 rfl) aN) (yp_small hF h2 (bd_sm s2 (by decide)))) (fun v3 w3 h3 => ?_)
  obtain ⟨rfl, u3⟩ := h3
  replace G := G.tr (Go.ofUp hF u3)
  replace hF := hF.up u3
  replace hW := hW.up u3
  replace U := U.tr u3
  rw [lo_small (by omega)]
  refine l_eff (e_make Hvaa.underlying38 sz_5 zr_5 by_5 (et g0 rfl) (et g0 rfl) (by omega) (by omega)) (fun v4 w4 h4 => ?_)
  obtain ⟨b4, rfl, n4⟩ := h4
  have f4 : w.heap.size ≤ b4 := Nat.le_trans U.size n4.fresh
  have nb4 := hF.nb n4.fresh
  replace G := G.tr (Go.ofUp hF n4.up)
  replace hF := hF.up n4.up
  replace hW := hW.up n4.up
  replace U := U.tr n4.up
  have k4 := mzB n4.blk
  refine l_step (y_assignV (et g0 rfl)) ?_
  refine l_nil ?_
  refine hK2 _ _ ?_
  refine fg3 1 0 7 (gS rfl (gS rfl (gS rfl (gS rfl (gS rfl g0))))) (gS rfl (gS rfl (gS rfl (gS rfl g0)))) g0 (fun g => ?_)
  refine c_seq (fun K5 hK5 => ?_)
  refine c_region ?_
  refine l_step (y_moveV (et (gS rfl (gS rfl g0)) rfl)) ?_
  refine l_step (y_moveV (et (gS rfl (gS rfl g0)) rfl)) ?_
  refine l_step (y_len Hvaa.underlying38 (et g0 rfl)) ?_
  refine l_eff (e_callV cal_136 (aC (et (gS rfl (gS rfl g0)) rfl) (aC (et g0 rfl) aN)) (yp_place hF h1 s1 l.length (by omega))) (fun v6 w6 h6 => ?_)
  obtain ⟨rfl, u6⟩ := h6
  replace G := G.tr (Go.ofUp hF u6)
  replace hF := hF.up u6
  replace k4 := k4.up u6
  replace hW := hW.up u6
  replace U := U.tr u6
  refine l_step (y_moveV (et g0 rfl)) ?_
  refine l_step (y_ext (et g0 rfl) rfl) ?_
  refine l_step (y_ext (et (gS rfl g0) rfl) rfl) ?_
  refine l_step (y_assignV (et (gS rfl g0) rfl)) ?_
  refine l_step (y_assignV (et (gS rfl g0) rfl)) ?_
  refine l_nil ?_
  refine hK5 _ _ ?_
  refine fg4 0 7 8 9 (gS rfl (gS rfl (gS rfl (gS rfl (gS rfl (gS rfl (gS rfl (gS rfl (gS rfl (gS rfl g0)))))))))) (gS rfl (gS rfl (gS rfl (gS rfl (gS rfl (gS rfl (gS rfl (gS rfl (gS rfl g0))))))))) (gS rfl g0) g0 (fun g => ?_)
  refine c_seq (fun K7 hK7 => ?_)
  refine c_seq (fun K8 hK8 => ?_)
  refine c_region ?_
  refine l_step (y_moveV (et g0 rfl)) ?_
  refine l_nil ?_
  refine hK8 _ _ ?_
  refine fg4 0 7 8 20 (gS rfl (gS rfl (gS rfl (gS rfl g0)))) (gS rfl (gS rfl (gS rfl g0))) (gS rfl (gS rfl g0)) g0 (fun g => ?_)
  refine c_cond (et g0 rfl) (fun cB1 => ?_) (fun cB1 => ?_)
  · skip
    
    have hlt : x < l.length := of_decide_eq_true cB1
    obtain ⟨b0, o0, rfl, hb0, hr0⟩ := hW.at (by omega)
    rw [show placeN x l.length = x by rw [placeN, if_pos hlt]]
    refine c_region ?_
    refine l_step (y_moveV (et (gS rfl (gS rfl g0)) rfl)) ?_
    refine l_step (y_moveV (et (gS rfl (gS rfl (gS rfl (gS rfl g0)))) rfl)) ?_
    refine l_step (y_moveV (et (gS rfl (gS rfl (gS rfl g0))) rfl)) ?_
    refine l_step (y_slS100n Hvaa.underlying38 sz_5 (et (gS rfl g0) rfl) (et g0 rfl) ?_ ?_) ?_
    omega
    omega
    have hW2 := WV.drop0 hW (k := x) (by omega)
    refine l_eff (e_copyW Hvaa.underlying38 (et (gS rfl (gS rfl (gS rfl g0))) rfl) (et g0 rfl) hW2 k4 (by simp only [List.size_toArray, length_bL, List.length_replicate, List.length_drop]; omega)) (fun v10 w10 h10 => ?_)
    obtain ⟨rfl, x10⟩ := h10
    replace G := G.chs x10.ch (by intro b hb; first | omega | exact .inl hb | (simp at hb ⊢; omega)) (by intro q hq; first | (subst hq; assumption) | (simp only at hq; first | (subst hq; assumption) | (rcases hq with rfl | rfl <;> assumption)))
    replace hF := G.fz
    replace hW := hW.ch x10.ch (by first | omega | (intro q hq; omega))
    replace k4 := x10.blk
    replace U := U.cc x10.ch (by intro b hb; first | exact hb ▸ f4 | omega)
    rw [cut_spl] at k4
    refine l_nil ?_
    refine hK7 _ _ ?_
    refine fg1 7 (gS rfl (gS rfl (gS rfl (gS rfl (gS rfl (gS rfl (gS rfl g0))))))) (fun g => ?_)
    refine c_seq (fun K11 hK11 => ?_)
    refine c_region ?_
    refine l_step (y_moveV (et g0 rfl)) ?_
    refine l_step (y_assignV (et g0 rfl)) ?_
    refine l_nil ?_
    refine hK11 _ _ ?_
    refine fg1 6 g0 (fun g => ?_)
    refine c_ret ?_
    refine ret1 rfl (res_tmp (et g0 rfl)) ?_
    exact OB.bv ⟨dig_cut hW.dig _ _, .inr ⟨_, by rw [len_cut], f4, k4.lt, by rw [len_cut]; omega, k4⟩⟩ G hF0
  · skip
    
    have hlt : ¬ x < l.length := of_decide_eq_false cB1
    refine c_skip ?_
    refine hK7 _ _ ?_
    refine fg1 7 (gS rfl (gS rfl g0)) (fun g => ?_)
    refine c_seq (fun K12 hK12 => ?_)
    refine c_region ?_
    refine l_step (y_moveV (et g0 rfl)) ?_
    refine l_step (y_assignV (et g0 rfl)) ?_
    refine l_nil ?_
    refine hK12 _ _ ?_
    refine fg1 6 g0 (fun g => ?_)
    refine c_ret ?_
    refine ret1 rfl (res_tmp (et g0 rfl)) ?_
    exact OB.bv ⟨dig_cut hW.dig _ _, .inr ⟨_, by rw [len_cut], f4, k4.lt, by rw [len_cut]; omega, by rw [cut_none _ hlt]; exact k4⟩⟩ G hF0
theorem addr_low {l : List Nat} {i : Nat} (hd : Dig 256 l) (hi : i ≤ 20 ∧ i ≤ l.length) (hn : ¬ (i < l.length ∧ i < 20)) : List.replicate (20 - i) 0 ++ (l.take i).reverse = be 20 (val 256 l % A160) := by
  have hL : (List.replicate (20 - i) 0 ++ (l.take i).reverse).length = 20 := by simp; omega
  have hD : Dig 256 (List.replicate (20 - i) 0 ++ (l.take i).reverse) := (Dig.rep 256 _ (by decide)).app (hd.take i).rev
  have e := be_ofBE _ hD
  rw [hL] at e
  suffices hs : ofBE (List.replicate (20 - i) 0 ++ (l.take i).reverse) = val 256 l % A160 by
    rw [hs] at e
    exact e.symm
  rw [← val_reverse, List.reverse_append, List.reverse_reverse, List.reverse_replicate, val_append, val_rep, Nat.mul_zero, Nat.add_zero, A160_pow]
  rcases Nat.lt_or_ge i 20 with h | h
  · have hil : i = l.length := by omega
    rw [hil, List.take_length]
    exact (Nat.mod_eq_of_lt (Nat.lt_of_lt_of_le (val_lt hd) (Nat.pow_le_pow_right (by decide) (by omega)))).symm
  · have h20 : i = 20 := by omega
    rw [val_take_drop 256 l 20 (by omega), h20]
    rw [Nat.add_mul_mod_self_left]
    exact (Nat.mod_eq_of_lt (by have := val_lt (hd.take 20); rw [List.length_take, Nat.min_eq_left (by omega)] at this; exact this)).symm
theorem yp_addrOf {w : World} {H : Store} {v1 : Value} {x : Nat} (hF : Fz w H) (h1 : NV H v1 x) (s1 : x < 256 ^ 32) :
    Ret 147 [v1] w (fun v w' => v = aV (x % A160) ∧ Up w w') := by
  obtain ⟨l, hl, e1, e2⟩ := h1.ex
  have hll : l.length ≤ 32 := tr_len e2 (by rw [e1]; exact s1)
  obtain ⟨a, c, rfl, hac, hc63, _⟩ := hl.sv.val
  refine enter (n := 23) Hvaa.func147 rfl rfl (Nat.le_of_ble_eq_true rfl) ?_
  have U := Up.refl w
  have G : Go (No) w H w H := Go.refl hF
  refine c_seq (fun K1 hK1 => ?_)
  refine c_region ?_
  refine l_eff (e_alloc zr_25) (fun v2 w2 h2 => ?_)
  obtain ⟨b2, rfl, n2⟩ := h2
  have f2 : w.heap.size ≤ b2 := Nat.le_trans U.size n2.fresh
  have nb2 := hF.nb n2.fresh
  replace G := G.tr (Go.ofUp hF n2.up)
  replace hF := hF.up n2.up
  replace U := U.tr n2.up
  have k2 := n2.blk
  refine l_nil ?_
  refine hK1 _ _ ?_
  refine c_seq (fun K3 hK3 => ?_)
  refine c_region ?_
  refine l_eff (e_alloc zr_25) (fun v4 w4 h4 => ?_)
  obtain ⟨b4, rfl, n4⟩ := h4
  have d2_4 : b2 < b4 := Nat.lt_of_lt_of_le k2.lt n4.fresh
  have f4 : w.heap.size ≤ b4 := Nat.le_trans U.size n4.fresh
  have nb4 := hF.nb n4.fresh
  replace G := G.tr (Go.ofUp hF n4.up)
  replace hF := hF.up n4.up
  replace k2 := k2.up n4.up
  replace U := U.tr n4.up
  have k4 := n4.blk
  refine l_nil ?_
  refine hK3 _ _ ?_
  refine c_seq (fun K5 hK5 => ?_)
  refine c_seq (fun K6 hK6 => ?_)
  refine c_region ?_
  refine l_step y_assignC ?_
  refine l_nil ?_
  refine hK6 _ _ ?_
  refine c_block (fun Q7 hQ7 => ?_)
  refine fg4 0 2 3 4 (gS rfl (gS rfl (gS rfl g0))) (gS rfl (gS rfl g0)) (gS rfl g0) g0 (fun g => ?_)
  replace k4 : Blk w4 b4 (bL (List.replicate (20 - 0) 0 ++ (l.take 0).reverse)).toArray := k4
  refine c_loop (fun k_ s_ W8 => ∃ (g : Nat → Value) (Hk8 : Store) (i : Nat), s_ = (upd (upd (upd (upd g 0 (.slice a l.length c)) 2 (.pointer (some ⟨b2, 0, none⟩))) 3 (.pointer (some ⟨b4, 0, none⟩))) 4 (.int .i64 (i : Nat))) ∧ 20 - i = k_ ∧ (i ≤ 20 ∧ i ≤ l.length) ∧ Blk W8 b4 ((bL (List.replicate (20 - i) 0 ++ (l.take i).reverse)).toArray) ∧ Go (fun k => k = b4) w4 H W8 Hk8) (20 - (0)) ?_ ?_
  · exact ⟨g, _, 0, rfl, rfl, ⟨Nat.zero_le _, Nat.zero_le _⟩, k4, Go.refl hF⟩
  · skip
    intro k_ s_ W8 hI K8 hK8
    obtain ⟨g, Hk8, i, rfl, rfl, hi, nk4, V8⟩ := hI
    have hle8 := V8.le
    replace nb2 := V8.nb nb2 k2.lt
    replace nb4 := V8.nb nb4 k4.lt
    replace hl := hl.mono hle8
    replace G := G.trans V8 (by intro b hb; first | exact hb.elim | omega | (simp at hb ⊢; omega))
    replace hF := V8.fz
    replace k2 := k2.ch V8.ch (by omega)
    replace k4 := nk4
    replace U := U.cc V8.ch (by intro b hb; first | exact hb.elim | omega | (simp at hb ⊢; omega))
    refine c_seq (fun K9 hK9 => ?_)
    refine c_seq (fun K10 hK10 => ?_)
    refine c_region ?_
    refine l_step (y_moveV (et g0 rfl)) ?_
    refine l_step (y_moveV (et (gS rfl (gS rfl (gS rfl (gS rfl g0)))) rfl)) ?_
    refine l_step (y_len Hvaa.underlying95 (et g0 rfl)) ?_
    refine l_step (y_lss (et (gS rfl (gS rfl g0)) rfl) (et g0 rfl)) ?_
    refine l_step (y_moveV (et g0 rfl)) ?_
    refine l_gpure (j := 4) (t := 9) (by exact rfl) (by exact rfl) (et g0 rfl) rfl (fun hc => (y_moveV (et (gS rfl (gS rfl (gS rfl (gS rfl (gS rfl g0))))) rfl))) ?_
    refine l_gpure (j := 4) (t := 9) (by exact rfl) (by exact rfl) (et (gS rfl g0) rfl) rfl (fun hc => (y_lss (et (cT g0 hc) rfl) rfl)) ?_
    refine l_step (y_pickA (et (gS rfl (gS rfl g0)) rfl) (et g0 rfl) rfl) ?_
    refine l_nil ?_
    refine hK10 _ _ ?_
    refine fg5 0 2 3 4 12 (gS rfl (gS rfl (gS rfl (gS rfl (gS rfl (gS rfl (gS rfl (gS rfl (gS rfl (gS rfl (gS rfl g0))))))))))) (gS rfl (gS rfl (gS rfl (gS rfl (gS rfl (gS rfl (gS rfl (gS rfl (gS rfl (gS rfl g0)))))))))) (gS rfl (gS rfl (gS rfl (gS rfl (gS rfl (gS rfl (gS rfl (gS rfl (gS rfl g0))))))))) (gS rfl (gS rfl (gS rfl (gS rfl (gS rfl (gS rfl (gS rfl (gS rfl g0)))))))) g0 (fun g => ?_)
    refine c_cond (et g0 rfl) (fun cB1 => ?_) (fun cB1 => ?_)
    · skip
      
      have hlt : i < l.length ∧ i < 20 := by have h := cB1; simp at h; omega
      obtain ⟨r', hr', hrr⟩ : ∃ r', 20 - i = r' + 1 ∧ 19 - i = r' := ⟨19 - i, by omega, rfl⟩
      rw [hr', List.replicate_succ', List.append_assoc] at k4
      replace k4 : Blk W8 b4 (bL (List.replicate r' 0 ++ 0 :: (l.take i).reverse)).toArray := k4
      refine c_skip ?_
      refine hK9 _ _ ?_
      refine fg4 0 2 3 4 (gS rfl (gS rfl (gS rfl (gS rfl g0)))) (gS rfl (gS rfl (gS rfl g0))) (gS rfl (gS rfl g0)) (gS rfl g0) (fun g => ?_)
      refine c_seq (fun K12 hK12 => ?_)
      refine c_block (fun Q13 hQ13 => ?_)
      refine c_region ?_
      refine l_step (y_moveV (et g0 rfl)) ?_
      refine l_step (y_sub rfl (et g0 rfl) ((subIN (x := 19) ?_ ?_).trans (castE hrr))) ?_
      omega
      omega
      refine l_step (y_moveV (et (gS rfl (gS rfl (gS rfl (gS rfl (gS rfl g0))))) rfl)) ?_
      refine l_step (y_moveV (et (gS rfl (gS rfl (gS rfl g0))) rfl)) ?_
      obtain ⟨ba, oa, ha, hb0, hr⟩ := (hl.wv hF).at (by omega)
      refine l_step (y_idxSa ha Hvaa.underlying95 sz_5 (et (gS rfl g0) rfl) (et g0 rfl) ?_) ?_
      omega
      refine l_step (y_load1 one_5 (et g0 rfl) (at1 (row_byte hr (by omega)))) ?_
      refine l_step (y_idxA Hvaa.underlying25 sz_5 (et (gS rfl (gS rfl (gS rfl (gS rfl (gS rfl (gS rfl (gS rfl g0))))))) rfl) (et (gS rfl (gS rfl (gS rfl (gS rfl g0)))) rfl) ?_ ?_) ?_
      omega
      omega
      refine l_effN (e_store sz_5 (et g0 rfl) (cellsV (et (gS rfl g0) rfl) rfl) rfl (by first | exact one_bL _ | exact one_uL _ | (intro v hv; simp at hv; subst hv; rfl)) k4 (by (simp only [List.size_toArray, length_bL, List.length_append, List.length_cons, List.length_reverse, List.length_take, List.length_replicate]; omega))) (fun v14 w14 h14 => ?_)
      obtain ⟨rfl, x14⟩ := h14
      replace k2 := k2.ch x14.ch (by omega)
      replace k4 := x14.blk
      replace G := G.wr x14 (by first | exact .inr f4 | omega | (simp; omega)) nb4
      replace V8 := V8.wr x14 (by first | exact .inr f4 | omega | (simp; omega)) nb4
      replace hF := G.fz
      replace U := U.st x14 f4
      replace k4 := Blk.setB k4 (by simp)
      replace k4 : Blk w14 b4 (bL (List.replicate (20 - (i + 1)) 0 ++ (l.take (i + 1)).reverse)).toArray := by rw [show 20 - (i + 1) = r' by omega, rev_take (by omega)]; exact k4
      refine l_nil ?_
      refine hQ13 _ _ _ (in_normal ?_)
      refine hK12 _ _ ?_
      refine fg4 0 2 3 4 (gS rfl (gS rfl (gS rfl (gS rfl (gS rfl (gS rfl (gS rfl (gS rfl (gS rfl (gS rfl g0)))))))))) (gS rfl (gS rfl (gS rfl (gS rfl (gS rfl (gS rfl (gS rfl (gS rfl (gS rfl g0))))))))) (gS rfl (gS rfl (gS rfl (gS rfl (gS rfl (gS rfl (gS rfl (gS rfl g0)))))))) (gS rfl (gS rfl (gS rfl (gS rfl (gS rfl (gS rfl (gS rfl g0))))))) (fun g => ?_)
      refine c_region ?_
      refine l_step (y_moveV (et g0 rfl)) ?_
      refine l_step (y_add (et g0 rfl) rfl (addIN (y := 1) ?_)) ?_
      omega
      refine l_step (y_assignV (et g0 rfl)) ?_
      refine l_nil ?_
      refine fK4 0 2 3 4 (gS rfl (gS rfl (gS rfl (gS rfl (gS rfl (gS rfl g0)))))) (gS rfl (gS rfl (gS rfl (gS rfl (gS rfl g0))))) (gS rfl (gS rfl (gS rfl (gS rfl g0)))) g0 (fun g => ?_)
      exact hK8 (20 - ((i + 1))) _ _ (by omega) ⟨g, _, (i + 1), rfl, rfl, ⟨by omega, by omega⟩, k4, V8⟩
    · skip
      
      have hge : ¬ (i < l.length ∧ i < 20) := by have h := cB1; simp at h; omega
      rw [addr_low hl.dig (by omega) (by omega), e1] at k4
      refine c_exit ?_
      refine hQ7 _ _ _ (in_exit ?_)
      refine hK5 _ _ ?_
      refine fg2 2 3 (gS rfl (gS rfl (gS rfl g0))) (gS rfl (gS rfl g0)) (fun g => ?_)
      refine c_seq (fun K15 hK15 => ?_)
      refine c_region ?_
      refine l_step (y_loadB agg_25 sz_25 (et g0 rfl) (by rw [List.size_toArray, length_bL, length_be]) (at1B k4)) ?_
      refine l_effN (e_store sz_25 (et (gS rfl (gS rfl g0)) rfl) (cellsV (et g0 rfl) rfl) (by rw [length_bL, length_be]) (by exact one_bL _) k2 (by exact Nat.le_of_ble_eq_true rfl)) (fun v16 w16 h16 => ?_)
      obtain ⟨rfl, x16⟩ := h16
      replace k4 := k4.ch x16.ch (by omega)
      replace k2 := x16.blk.full (by rw [length_bL, length_be]; rfl)
      replace G := G.wr x16 (by first | exact .inr f2 | omega | (simp; omega)) nb2
      replace hF := G.fz
      replace U := U.st x16 f2
      refine l_nil ?_
      refine hK15 _ _ ?_
      refine fg1 2 (gS rfl (gS rfl g0)) (fun g => ?_)
      refine c_ret ?_
      refine ret1 rfl (res_blk agg_25 sz_25 (et g0 rfl) (by rw [List.size_toArray, length_bL, length_be]) k2) ?_
      exact ⟨rfl, U⟩
def natAt (a : Nat) : Nat := if a = 4 ∨ a = 5 then a else 0
theorem bld25_4 (w : World) : (Instr.build 25 [(19, .int .u8 4)].toArray).run Hvaa.prog w = .ok (aV 4) w := by kernel_rfl
theorem bld25_5 (w : World) : (Instr.build 25 [(19, .int .u8 5)].toArray).run Hvaa.prog w = .ok (aV 5) w := by kernel_rfl
theorem byte19 {a : Nat} (h : a = 4 ∨ a = 5) : (bL (be 20 a)).toArray[0 + 19]? = some (.int .u8 (a : Nat)) := by rcases h with rfl | rfl <;> rfl
theorem yp_nativeAt (a : Nat) (w : World) (ha : a < A160) :
    Ret 53 [aV a] w (fun v w' => v = .int .u8 (natAt a : Nat) ∧ Up w w') := by
  refine enter (n := 13) Hvaa.func53 rfl rfl (Nat.le_of_ble_eq_true rfl) ?_
  have U := Up.refl w
  refine c_seq (fun K1 hK1 => ?_)
  refine c_region ?_
  refine l_eff (e_boxV (et g0 rfl)) (fun v2 w2 h2 => ?_)
  obtain ⟨b2, rfl, n2⟩ := h2
  have f2 : w.heap.size ≤ b2 := Nat.le_trans U.size n2.fresh
  replace U := U.tr n2.up
  have k2 := n2.blk
  replace k2 : Blk w2 b2 (bL (be 20 a)).toArray := k2
  refine l_step y_assignC ?_
  refine l_nil ?_
  refine hK1 _ _ ?_
  refine fg1 1 (gS rfl g0) (fun g => ?_)
  refine c_seq (fun K3 hK3 => ?_)
  refine c_seq (fun K4 hK4 => ?_)
  refine c_region ?_
  refine l_step (y_loadB agg_25 sz_25 (et g0 rfl) (by rw [List.size_toArray, length_bL, length_be]) (at1B k2)) ?_
  refine l_step (y_bld (bC rfl bN) bld25_4) ?_
  refine l_step (y_eqlAddr (b := 4) ha (by decide) (et (gS rfl g0) rfl) (et g0 rfl)) ?_
  refine l_step (y_moveV (et g0 rfl)) ?_
  refine gsplitL (i := 6) g0 (fun q5 => ?_) (fun q5 => ?_)
  · skip
    have h4 : a = 4 := of_decide_eq_true q5
    refine l_gskip (j := 3) (t := 6) (by exact rfl) (by exact rfl) (et g0 rfl) (by decide) (by decide) ?_
    refine l_gskip (j := 3) (t := 6) (by exact rfl) (by exact rfl) (et (gS rfl g0) rfl) (by decide) (by decide) ?_
    refine l_gskip (j := 3) (t := 6) (by exact rfl) (by exact rfl) (et (gS rfl (gS rfl g0)) rfl) (by decide) (by decide) ?_
    refine l_step (y_pickT (et (gS rfl (gS rfl (gS rfl g0))) rfl) rfl) ?_
    refine l_nil ?_
    refine hK4 _ _ ?_
    refine fg2 1 10 (gS rfl (gS rfl (gS rfl (gS rfl (gS rfl (gS rfl (gS rfl (gS rfl (gS rfl g0))))))))) g0 (fun g => ?_)
    refine c_true (et g0 rfl) rfl ?_
    refine c_seq (fun K7 hK7 => ?_)
    refine c_region ?_
    refine l_step (y_idxAC 19 19 Hvaa.underlying25 sz_5 (et (gS rfl g0) rfl) rfl rfl rfl) ?_
    refine l_step (y_load1 one_5 (et g0 rfl) (at1 (k2.cell (byte19 (by omega))))) ?_
    refine l_step (y_assignV (et g0 rfl)) ?_
    refine l_nil ?_
    refine hK7 _ _ ?_
    refine fg1 2 g0 (fun g => ?_)
    refine c_ret ?_
    refine ret1 rfl (res_tmp (et g0 rfl)) ?_
    exact ⟨by rw [natAt, if_pos (by omega)], U⟩
  · skip
    have h4 : a ≠ 4 := of_decide_eq_false q5
    refine l_gstep (j := 3) (t := 6) (by exact rfl) (by exact rfl) (et g0 rfl) (by decide) (y_loadB agg_25 sz_25 (et (gS rfl (gS rfl (gS rfl (gS rfl (gS rfl g0))))) rfl) (by rw [List.size_toArray, length_bL, length_be]) (at1B k2)) ?_
    refine l_gstep (j := 3) (t := 6) (by exact rfl) (by exact rfl) (et (gS rfl g0) rfl) (by decide) (y_bld (bC rfl bN) bld25_5) ?_
    refine l_gstep (j := 3) (t := 6) (by exact rfl) (by exact rfl) (et (gS rfl (gS rfl g0)) rfl) (by decide) (y_eqlAddr (b := 5) ha (by decide) (et (gS rfl g0) rfl) (et g0 rfl)) ?_
    refine l_step (y_pickF (et (gS rfl (gS rfl (gS rfl g0))) rfl) (et g0 rfl)) ?_
    refine l_nil ?_
    refine hK4 _ _ ?_
    refine fg2 1 10 (gS rfl (gS rfl (gS rfl (gS rfl (gS rfl (gS rfl (gS rfl (gS rfl (gS rfl g0))))))))) g0 (fun g => ?_)
    refine c_cond (et g0 rfl) (fun cB1 => ?_) (fun cB1 => ?_)
    · skip
      
      have h5 : a = 5 := of_decide_eq_true cB1
      refine c_seq (fun K9 hK9 => ?_)
      refine c_region ?_
      refine l_step (y_idxAC 19 19 Hvaa.underlying25 sz_5 (et (gS rfl g0) rfl) rfl rfl rfl) ?_
      refine l_step (y_load1 one_5 (et g0 rfl) (at1 (k2.cell (byte19 (by omega))))) ?_
      refine l_step (y_assignV (et g0 rfl)) ?_
      refine l_nil ?_
      refine hK9 _ _ ?_
      refine fg1 2 g0 (fun g => ?_)
      refine c_ret ?_
      refine ret1 rfl (res_tmp (et g0 rfl)) ?_
      exact ⟨by rw [natAt, if_pos (by omega)], U⟩
    · skip
      
      have h5 : a ≠ 5 := of_decide_eq_false cB1
      refine c_skip ?_
      refine hK3 _ _ ?_
      refine fg0 (fun g => ?_)
      refine c_seq (fun K10 hK10 => ?_)
      refine c_region ?_
      refine l_step y_assignC ?_
      refine l_nil ?_
      refine hK10 _ _ ?_
      refine c_ret ?_
      refine ret1 rfl (res_tmp (et g0 rfl)) ?_
      exact ⟨by rw [natAt, if_neg (by omega)]; rfl, U⟩
theorem mach_nativeAt (a : Nat) (w : World) (ha : a < A160) :
    Ret 102 [aV a] w (fun v w' => v = .int .u8 (natAt a : Nat) ∧ Up w w') := by
  refine enter (n := 13) Hvaa.func102 rfl rfl (Nat.le_of_ble_eq_true rfl) ?_
  have U := Up.refl w
  refine c_seq (fun K1 hK1 => ?_)
  refine c_region ?_
  refine l_eff (e_boxV (et g0 rfl)) (fun v2 w2 h2 => ?_)
  obtain ⟨b2, rfl, n2⟩ := h2
  have f2 : w.heap.size ≤ b2 := Nat.le_trans U.size n2.fresh
  replace U := U.tr n2.up
  have k2 := n2.blk
  replace k2 : Blk w2 b2 (bL (be 20 a)).toArray := k2
  refine l_step y_assignC ?_
  refine l_nil ?_
  refine hK1 _ _ ?_
  refine fg1 1 (gS rfl g0) (fun g => ?_)
  refine c_seq (fun K3 hK3 => ?_)
  refine c_seq (fun K4 hK4 => ?_)
  refine c_region ?_
  refine l_step (y_loadB agg_25 sz_25 (et g0 rfl) (by rw [List.size_toArray, length_bL, length_be]) (at1B k2)) ?_
  refine l_step (y_bld (bC rfl bN) bld25_4) ?_
  refine l_step (y_eqlAddr (b := 4) ha (by decide) (et (gS rfl g0) rfl) (et g0 rfl)) ?_
  refine l_step (y_moveV (et g0 rfl)) ?_
  refine gsplitL (i := 6) g0 (fun q5 => ?_) (fun q5 => ?_)
  · skip
    have h4 : a = 4 := of_decide_eq_true q5
    refine l_gskip (j := 3) (t := 6) (by exact rfl) (by exact rfl) (et g0 rfl) (by decide) (by decide) ?_
    refine l_gskip (j := 3) (t := 6) (by exact rfl) (by exact rfl) (et (gS rfl g0) rfl) (by decide) (by decide) ?_
    refine l_gskip (j := 3) (t := 6) (by exact rfl) (by exact rfl) (et (gS rfl (gS rfl g0)) rfl) (by decide) (by decide) ?_
    refine l_step (y_pickT (et (gS rfl (gS rfl (gS rfl g0))) rfl) rfl) ?_
    refine l_nil ?_
    refine hK4 _ _ ?_
    refine fg2 1 10 (gS rfl (gS rfl (gS rfl (gS rfl (gS rfl (gS rfl (gS rfl (gS rfl (gS rfl g0))))))))) g0 (fun g => ?_)
    refine c_true (et g0 rfl) rfl ?_
    refine c_seq (fun K7 hK7 => ?_)
    refine c_region ?_
    refine l_step (y_idxAC 19 19 Hvaa.underlying25 sz_5 (et (gS rfl g0) rfl) rfl rfl rfl) ?_
    refine l_step (y_load1 one_5 (et g0 rfl) (at1 (k2.cell (byte19 (by omega))))) ?_
    refine l_step (y_assignV (et g0 rfl)) ?_
    refine l_nil ?_
    refine hK7 _ _ ?_
    refine fg1 2 g0 (fun g => ?_)
    refine c_ret ?_
    refine ret1 rfl (res_tmp (et g0 rfl)) ?_
    exact ⟨by rw [natAt, if_pos (by omega)], U⟩
  · skip
    have h4 : a ≠ 4 := of_decide_eq_false q5
    refine l_gstep (j := 3) (t := 6) (by exact rfl) (by exact rfl) (et g0 rfl) (by decide) (y_loadB agg_25 sz_25 (et (gS rfl (gS rfl (gS rfl (gS rfl (gS rfl g0))))) rfl) (by rw [List.size_toArray, length_bL, length_be]) (at1B k2)) ?_
    refine l_gstep (j := 3) (t := 6) (by exact rfl) (by exact rfl) (et (gS rfl g0) rfl) (by decide) (y_bld (bC rfl bN) bld25_5) ?_
    refine l_gstep (j := 3) (t := 6) (by exact rfl) (by exact rfl) (et (gS rfl (gS rfl g0)) rfl) (by decide) (y_eqlAddr (b := 5) ha (by decide) (et (gS rfl g0) rfl) (et g0 rfl)) ?_
    refine l_step (y_pickF (et (gS rfl (gS rfl (gS rfl g0))) rfl) (et g0 rfl)) ?_
    refine l_nil ?_
    refine hK4 _ _ ?_
    refine fg2 1 10 (gS rfl (gS rfl (gS rfl (gS rfl (gS rfl (gS rfl (gS rfl (gS rfl (gS rfl g0))))))))) g0 (fun g => ?_)
    refine c_cond (et g0 rfl) (fun cB1 => ?_) (fun cB1 => ?_)
    · skip
      
      have h5 : a = 5 := of_decide_eq_true cB1
      refine c_seq (fun K9 hK9 => ?_)
      refine c_region ?_
      refine l_step (y_idxAC 19 19 Hvaa.underlying25 sz_5 (et (gS rfl g0) rfl) rfl rfl rfl) ?_
      refine l_step (y_load1 one_5 (et g0 rfl) (at1 (k2.cell (byte19 (by omega))))) ?_
      refine l_step (y_assignV (et g0 rfl)) ?_
      refine l_nil ?_
      refine hK9 _ _ ?_
      refine fg1 2 g0 (fun g => ?_)
      refine c_ret ?_
      refine ret1 rfl (res_tmp (et g0 rfl)) ?_
      exact ⟨by rw [natAt, if_pos (by omega)], U⟩
    · skip
      
      have h5 : a ≠ 5 := of_decide_eq_false cB1
      refine c_skip ?_
      refine hK3 _ _ ?_
      refine fg0 (fun g => ?_)
      refine c_seq (fun K10 hK10 => ?_)
      refine c_region ?_
      refine l_step y_assignC ?_
      refine l_nil ?_
      refine hK10 _ _ ?_
      refine c_ret ?_
      refine ret1 rfl (res_tmp (et g0 rfl)) ?_
      exact ⟨by rw [natAt, if_neg (by omega)]; rfl, U⟩
def opndN (l : List Nat) (i : Nat) : Nat := l[i]?.getD 0
theorem opnd_lt {l : List Nat} (h : ∀ x ∈ l, x < W256) (i : Nat) : opndN l i < W256 := by
  unfold opndN
  cases hq : l[i]? with
  | none => decide
  | some x => exact h x (List.mem_of_getElem? hq)
theorem Row.at0 {w : World} {b o : Nat} {v : Value} (h : Row w b o [v]) : w.cell? ⟨b, o, none⟩ = some v := by simpa using h 0 v rfl
theorem yp_operand (i c : Nat) (a : Option Addr) (xs : List Nat) (w : World) (H : Store) (hF : Fz w H) (hL : LV P_nat 1 H (.slice a xs.length c) xs) (hn : xs.length < 2147483648) (hi : i < 2147483648) :
    Ret 228 [.slice a xs.length c, .int .i64 i] w (fun v w' => Up w w' ∧ NV H v (opndN xs i) ∧ opndN xs i < W256) := by
  refine enter (n := 13) Hvaa.func228 rfl rfl (Nat.le_of_ble_eq_true rfl) ?_
  have U := Up.refl w
  have G : Go (No) w H w H := Go.refl hF
  refine c_seq (fun K1 hK1 => ?_)
  refine c_region ?_
  refine l_step y_assignC ?_
  refine l_nil ?_
  refine hK1 _ _ ?_
  refine fg2 1 0 (gS rfl (gS rfl g0)) (gS rfl g0) (fun g => ?_)
  refine c_seq (fun K2 hK2 => ?_)
  refine c_seq (fun K3 hK3 => ?_)
  refine c_region ?_
  refine l_step (y_moveV (et (gS rfl g0) rfl)) ?_
  refine l_step (y_moveV (et (gS rfl g0) rfl)) ?_
  refine l_step (y_len Hvaa.underlying144 (et g0 rfl)) ?_
  refine l_step ((y_lss (et (gS rfl (gS rfl g0)) rfl) (et g0 rfl)).to (dec_iff (show ((i : Nat) : Int) < (xs.length : Nat) ↔ i < xs.length by omega))) ?_
  refine l_nil ?_
  refine hK3 _ _ ?_
  refine fg3 1 0 8 (gS rfl (gS rfl (gS rfl (gS rfl (gS rfl g0))))) (gS rfl (gS rfl (gS rfl (gS rfl g0)))) g0 (fun g => ?_)
  refine c_cond (et g0 rfl) (fun cB1 => ?_) (fun cB1 => ?_)
  · skip
    
    have hlt := of_decide_eq_true cB1
    obtain ⟨ba, oa, r, ha, hr, hrl, vx, hrv, hnv, hvb⟩ := hL.row hF hlt
    rw [hrv] at hr
    refine c_seq (fun K5 hK5 => ?_)
    refine c_region ?_
    refine l_step (y_moveV (et (gS rfl g0) rfl)) ?_
    refine l_step (y_moveV (et (gS rfl (gS rfl (gS rfl g0))) rfl)) ?_
    refine l_step (y_idxSa ha Hvaa.underlying144 sz_95 (et (gS rfl g0) rfl) (et g0 rfl) ?_) ?_
    omega
    refine l_step (y_load1 one_95 (et g0 rfl) (at1 (hr.at0))) ?_
    refine l_step (y_assignV (et g0 rfl)) ?_
    refine l_nil ?_
    refine hK5 _ _ ?_
    refine fg1 4 g0 (fun g => ?_)
    refine c_ret ?_
    refine ret1 rfl (res_tmp (et g0 rfl)) ?_
    exact ⟨U, by rw [opndN, List.getElem?_eq_getElem hlt]; exact ⟨hnv, hvb⟩⟩
  · skip
    
    have hlt := of_decide_eq_false cB1
    refine c_skip ?_
    refine hK2 _ _ ?_
    refine fg0 (fun g => ?_)
    refine c_seq (fun K6 hK6 => ?_)
    refine c_region ?_
    refine l_step y_assignC ?_
    refine l_nil ?_
    refine hK6 _ _ ?_
    refine c_ret ?_
    refine ret1 rfl (res_tmp (et g0 rfl)) ?_
    exact ⟨U, by rw [opndN, List.getElem?_eq_none (by omega)]; exact ⟨NV.nil _, by decide⟩⟩
end Go.Proofs.YgvaawGreat
