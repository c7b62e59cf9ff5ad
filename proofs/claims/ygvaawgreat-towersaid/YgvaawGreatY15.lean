import Derived.Test.YgvaawGreatY14
set_option maxRecDepth 100000
set_option maxHeartbeats 4000000
set_option linter.unusedSimpArgs false
set_option linter.unusedVariables false
namespace Go.Proofs.YgvaawGreat
open Go
theorem putP_len {α : Type} {same lt : α → Bool} : ∀ (x : Option α) (l : List α), (putP same lt x l).length ≤ l.length + x.toList.length
  | x, [] => by rw [putP]; simp
  | none, y :: l => by
    have := putP_len (same := same) (lt := lt) none l
    rw [putP]; split <;> simp at * <;> omega
  | some n, y :: l => by
    have h1 := putP_len (same := same) (lt := lt) none l
    have h2 := putP_len (same := same) (lt := lt) (some n) l
    rw [putP]; split
    · split <;> simp at * <;> omega
    · simp at *; omega
theorem putA_len (l : List YAcct) (A : YAcct) : (putA l A).length ≤ l.length + 1 := by
  have := putP_len (same := fun y : YAcct => y.addr == A.addr) (lt := fun y => decide (A.addr < y.addr)) (if emptyS A then none else some A) l
  unfold putA
  split at this <;> simp at this ⊢ <;> rename_i h <;> simp [h] at * <;> omega
def takeB (l : List YAcct) (a v : Nat) : List YAcct := putA l (setBal (acctAt l a) ((acctAt l a).bal - v))
def giveB (l : List YAcct) (a v : Nat) : List YAcct := putA l (setBal (acctAt l a) ((acctAt l a).bal + v))
def moveA (l : List YAcct) (a b v : Nat) : List YAcct := if (acctAt l a).bal < v ∨ v = 0 then l else giveB (takeB l a v) b v
theorem get_set {cs : Array Value} {o : Nat} {x v : Value} (h : cs[o]? = some x) : (cs.setIfInBounds (o + 0) v)[o]? = some v := by
  rw [Nat.add_zero, Array.getElem?_setIfInBounds_self, if_pos (Array.getElem?_eq_some_iff.1 h).1]
theorem set_set {cs : Array Value} {o : Nat} {x v : Value} : (cs.setIfInBounds o x).setIfInBounds o v = cs.setIfInBounds o v := by
  apply Array.ext_getElem?
  intro i
  by_cases hi : o = i
  · subst hi; simp [Array.getElem?_setIfInBounds]
  · rw [Array.getElem?_setIfInBounds_ne hi, Array.getElem?_setIfInBounds_ne hi, Array.getElem?_setIfInBounds_ne hi]
theorem yp_move (bs o sc0 a b v_ : Nat) (sa0 : Option Addr) (cs : Array Value) (accts : List YAcct) (w : World) (H : Store) (hF : Fz w H) (kS : Blk w bs cs) (nbS : ¬ H.has bs) (hva : cs[o]? = some (.slice sa0 accts.length sc0)) (hL : LV P_acct 24 H (.slice sa0 accts.length sc0) accts) (ha : a < A160) (hb : b < A160) (hn : accts.length < 2147483600) {vv : Value} (hV : NV H vv v_) (hvb : v_ < 256 ^ 32) (hsum : (acctAt (takeB accts a v_) b).bal + v_ < W256) :
    Ret 133 [.pointer (some ⟨bs, o, none⟩), aV a, aV b, vv] w (fun v w' => v = .tuple #[] ∧ ∃ v' H', Go (fun k => k = bs) w H w' H' ∧ LV P_acct 24 H' v' (moveA accts a b v_) ∧ Blk w' bs (cs.setIfInBounds (o + 0) v')) := by
  have lS := kS.lt
  refine enter (n := 38) Hvaa.func133 rfl rfl (Nat.le_of_ble_eq_true rfl) ?_
  have U : Ch (fun k => k = bs) w w := Ch.refl _ w
  have G : Go (fun k => k = bs) w H w H := Go.refl hF
  refine c_seq (fun K1 hK1 => ?_)
  refine c_region ?_
  refine l_eff (e_boxV (et (gS rfl g0) rfl)) (fun v2 w2 h2 => ?_)
  obtain ⟨b2, rfl, n2⟩ := h2
  have f2 : w.heap.size ≤ b2 := Nat.le_trans U.size n2.fresh
  have nb2 := hF.nb n2.fresh
  replace G := G.tr (Go.ofUp hF n2.up)
  replace hF := hF.up n2.up
  replace kS := kS.up n2.up
  replace U := U.tr n2.up
  have k2 := n2.blk
  replace k2 : Blk w2 b2 (bL (be 20 a)).toArray := k2
  refine l_eff (e_boxV (et (gS rfl (gS rfl (gS rfl g0))) rfl)) (fun v3 w3 h3 => ?_)
  obtain ⟨b3, rfl, n3⟩ := h3
  have d2_3 : b2 < b3 := Nat.lt_of_lt_of_le k2.lt n3.fresh
  have f3 : w.heap.size ≤ b3 := Nat.le_trans U.size n3.fresh
  have nb3 := hF.nb n3.fresh
  replace G := G.tr (Go.ofUp hF n3.up)
  replace hF := hF.up n3.up
  replace k2 := k2.up n3.up
  replace kS := kS.up n3.up
  replace U := U.tr n3.up
  have k3 := n3.blk
  replace k3 : Blk w3 b3 (bL (be 20 b)).toArray := k3
  refine l_nil ?_
  refine hK1 _ _ ?_
  refine fg4 3 0 5 6 (gS rfl (gS rfl (gS rfl (gS rfl (gS rfl g0))))) (gS rfl (gS rfl g0)) (gS rfl g0) g0 (fun g => ?_)
  refine c_seq (fun K4 hK4 => ?_)
  refine c_region ?_
  refine l_step (y_moveV (et (gS rfl (gS rfl g0)) rfl)) ?_
  refine l_step (y_loadB agg_25 sz_25 (et (gS rfl (gS rfl g0)) rfl) (by first | (simp only [Value.cells, hV, aV, bV, wV, wL, List.size_toArray, length_bL, length_uL, length_be, size_spl, List.length_cons, List.length_nil, List.length_replicate, Nat.zero_add, Nat.reduceAdd, Nat.reduceLeDiff, Nat.le_refl]; done) | rfl) (at1B k2)) ?_
  refine l_eff (e_callV cal_43 (aC (et (gS rfl g0) rfl) (aC (et g0 rfl) aN)) (yp_account bs o sc0 a sa0 cs accts _ _ hF kS hva hL ha (by omega))) (fun v5 w5 h5 => ?_)
  obtain ⟨c0, rfl, hP0, u5⟩ := h5
  replace G := G.tr (Go.ofUp hF u5)
  replace hF := hF.up u5
  replace k2 := k2.up u5
  replace k3 := k3.up u5
  replace kS := kS.up u5
  replace U := U.tr u5
  obtain ⟨vnx, vbx, vcx, vsx, hcx, hnx, hbbx, hcdx, hb1x, hb2x⟩ := acct_form hP0
  rw [hcx]
  refine l_step (y_fldV (f := 2) Hvaa.underlying107 rfl rfl rfl one_95 (et g0 rfl) ((app20 (i := 1) rfl).trans rfl)) ?_
  refine l_step (y_moveV (et (gS rfl (gS rfl (gS rfl (gS rfl (gS rfl (gS rfl (gS rfl g0))))))) rfl)) ?_
  refine l_eff (e_callV cal_125 (aC (et (gS rfl g0) rfl) (aC (et g0 rfl) aN)) (nat_sub hF hbbx hV (bd_sm (bd_W hb2x) (by decide)) (bd_sm hvb (by decide)))) (fun v6 w6 h6 => ?_)
  obtain ⟨z6, H6, rfl, g6, n6⟩ := h6
  have hlew6 := g6.le
  replace nb2 := g6.nb nb2 k2.lt
  replace nb3 := g6.nb nb3 k3.lt
  replace nbS := g6.nb nbS kS.lt
  replace hL := hL.mono hlew6
  replace hV := hV.mono hlew6
  replace hbbx := hbbx.mono hlew6
  replace k2 := k2.up g6.up
  replace k3 := k3.up g6.up
  replace kS := kS.up g6.up
  replace U := U.tr g6.up
  replace G := G.tr g6
  replace hF := g6.fz
  have q6 := bd_sub' n6 (bd_W hb2x)
  refine l_step (y_moveV (et g0 rfl)) ?_
  refine l_step (y_ext (et g0 rfl) rfl) ?_
  refine l_step (y_ext (et (gS rfl g0) rfl) rfl) ?_
  refine l_step (y_assignV (et (gS rfl g0) rfl)) ?_
  refine l_step (y_assignV (et (gS rfl g0) rfl)) ?_
  refine l_nil ?_
  refine hK4 _ _ ?_
  refine fg6 3 0 5 6 8 9 (gS rfl (gS rfl (gS rfl (gS rfl (gS rfl (gS rfl (gS rfl (gS rfl (gS rfl (gS rfl (gS rfl (gS rfl (gS rfl (gS rfl g0)))))))))))))) (gS rfl (gS rfl (gS rfl (gS rfl (gS rfl (gS rfl (gS rfl (gS rfl (gS rfl (gS rfl (gS rfl (gS rfl (gS rfl g0))))))))))))) (gS rfl (gS rfl (gS rfl (gS rfl (gS rfl (gS rfl (gS rfl (gS rfl (gS rfl (gS rfl (gS rfl (gS rfl g0)))))))))))) (gS rfl (gS rfl (gS rfl (gS rfl (gS rfl (gS rfl (gS rfl (gS rfl (gS rfl (gS rfl (gS rfl g0))))))))))) (gS rfl g0) g0 (fun g => ?_)
  refine c_seq (fun K7 hK7 => ?_)
  refine c_seq (fun K8 hK8 => ?_)
  refine c_region ?_
  refine l_step (y_moveV (et g0 rfl)) ?_
  refine l_step (y_not (et g0 rfl)) ?_
  refine l_step (y_moveV (et g0 rfl)) ?_
  refine gsplitL (i := 21) g0 (fun q9 => ?_) (fun q9 => ?_)
  · skip
    have hlt : (acctAt accts a).bal < v_ := by simpa using q9
    refine l_gskip (j := 2) (t := 21) (by exact rfl) (by exact rfl) (et g0 rfl) (by decide) (by decide) ?_
    refine l_gskip (j := 2) (t := 21) (by exact rfl) (by exact rfl) (et (gS rfl g0) rfl) (by decide) (by decide) ?_
    refine l_step (y_pickT (et (gS rfl (gS rfl g0)) rfl) rfl) ?_
    refine l_nil ?_
    refine hK8 _ _ ?_
    refine fg6 3 0 5 6 8 24 (gS rfl (gS rfl (gS rfl (gS rfl (gS rfl (gS rfl (gS rfl (gS rfl (gS rfl (gS rfl (gS rfl (gS rfl g0)))))))))))) (gS rfl (gS rfl (gS rfl (gS rfl (gS rfl (gS rfl (gS rfl (gS rfl (gS rfl (gS rfl (gS rfl g0))))))))))) (gS rfl (gS rfl (gS rfl (gS rfl (gS rfl (gS rfl (gS rfl (gS rfl (gS rfl (gS rfl g0)))))))))) (gS rfl (gS rfl (gS rfl (gS rfl (gS rfl (gS rfl (gS rfl (gS rfl (gS rfl g0))))))))) (gS rfl (gS rfl (gS rfl (gS rfl (gS rfl (gS rfl (gS rfl (gS rfl g0)))))))) g0 (fun g => ?_)
    refine c_true (et g0 rfl) rfl ?_
    refine c_ret ?_
    refine ret0 rfl ?_
    exact ⟨rfl, _, _, G, by rw [moveA, if_pos (.inl hlt)]; exact hL, by rw [Nat.add_zero, set_self hva]; exact kS⟩
  · skip
    have hle : v_ ≤ (acctAt accts a).bal := by simpa using q9
    refine l_gstep (j := 2) (t := 21) (by exact rfl) (by exact rfl) (et g0 rfl) (by decide) (y_moveV (et (gS rfl (gS rfl (gS rfl (gS rfl (gS rfl (gS rfl (gS rfl (gS rfl (gS rfl g0))))))))) rfl)) ?_
    refine l_geff (j := 2) (t := 21) (by exact rfl) (by exact rfl) (et (gS rfl g0) rfl) rfl (e_callV cal_79 (aC (et g0 rfl) aN) (yp_isZero hF hV (bd_sm hvb (by decide)))) (fun v11 w11 h11 => ?_)
    obtain ⟨rfl, u11⟩ := h11
    replace G := G.tr (Go.ofUp hF u11)
    replace hF := hF.up u11
    replace k2 := k2.up u11
    replace k3 := k3.up u11
    replace kS := kS.up u11
    replace U := U.tr u11
    refine l_step (y_pickF (et (gS rfl (gS rfl g0)) rfl) (et g0 rfl)) ?_
    refine l_nil ?_
    refine hK8 _ _ ?_
    refine fg6 3 0 5 6 8 24 (gS rfl (gS rfl (gS rfl (gS rfl (gS rfl (gS rfl (gS rfl (gS rfl (gS rfl (gS rfl (gS rfl (gS rfl g0)))))))))))) (gS rfl (gS rfl (gS rfl (gS rfl (gS rfl (gS rfl (gS rfl (gS rfl (gS rfl (gS rfl (gS rfl g0))))))))))) (gS rfl (gS rfl (gS rfl (gS rfl (gS rfl (gS rfl (gS rfl (gS rfl (gS rfl (gS rfl g0)))))))))) (gS rfl (gS rfl (gS rfl (gS rfl (gS rfl (gS rfl (gS rfl (gS rfl (gS rfl g0))))))))) (gS rfl (gS rfl (gS rfl (gS rfl (gS rfl (gS rfl (gS rfl (gS rfl g0)))))))) g0 (fun g => ?_)
    refine c_cond (et g0 rfl) (fun cB1 => ?_) (fun cB1 => ?_)
    · skip
      
      have hz : v_ = 0 := of_decide_eq_true cB1
      refine c_ret ?_
      refine ret0 rfl ?_
      exact ⟨rfl, _, _, G, by rw [moveA, if_pos (.inr hz)]; exact hL, by rw [Nat.add_zero, set_self hva]; exact kS⟩
    · skip
      
      have hz : v_ ≠ 0 := of_decide_eq_false cB1
      have hno : ¬ ((acctAt accts a).bal < v_ ∨ v_ = 0) := by omega
      refine c_skip ?_
      refine hK7 _ _ ?_
      refine fg5 3 0 5 6 8 (gS rfl (gS rfl (gS rfl (gS rfl (gS rfl g0))))) (gS rfl (gS rfl (gS rfl (gS rfl g0)))) (gS rfl (gS rfl (gS rfl g0))) (gS rfl (gS rfl g0)) (gS rfl g0) (fun g => ?_)
      refine c_seq (fun K13 hK13 => ?_)
      refine c_region ?_
      refine l_step (y_moveV (et (gS rfl (gS rfl (gS rfl g0))) rfl)) ?_
      refine l_step (y_loadB agg_25 sz_25 (et (gS rfl (gS rfl (gS rfl g0))) rfl) (by first | (simp only [Value.cells, hV, aV, bV, wV, wL, List.size_toArray, length_bL, length_uL, length_be, size_spl, List.length_cons, List.length_nil, List.length_replicate, Nat.zero_add, Nat.reduceAdd, Nat.reduceLeDiff, Nat.le_refl]; done) | rfl) (at1B k2)) ?_
      refine l_step (y_moveV (et (gS rfl (gS rfl g0)) rfl)) ?_
      refine l_eff (e_callV cal_49 (aC (et (gS rfl (gS rfl g0)) rfl) (aC (et (gS rfl g0) rfl) (aC (et g0 rfl) aN))) (yp_setBalance bs o sc0 a sa0 cs accts _ _ hF kS nbS hva hL ha (by omega) n6 (W_bd q6))) (fun v14 w14 h14 => ?_)
      obtain ⟨rfl, v2, H14, g14, lv2, kS2⟩ := h14
      have hlew14 := g14.le
      replace nb2 := g14.nb nb2 k2.lt
      replace nb3 := g14.nb nb3 k3.lt
      replace nbS := g14.nb nbS kS.lt
      replace hL := hL.mono hlew14
      replace hV := hV.mono hlew14
      replace hbbx := hbbx.mono hlew14
      replace n6 := n6.mono hlew14
      replace k2 := k2.ch g14.ch (by omega)
      replace k3 := k3.ch g14.ch (by omega)
      replace kS := kS2
      replace U := U.cc g14.ch (by intro b hb; first | omega | exact .inl hb | exact .inr (hb ▸ U))
      replace G := G.trans g14 (by intro b hb; first | omega | exact .inl hb | (simp at hb ⊢; omega))
      replace hF := g14.fz
      obtain ⟨sa2, sc2, hv2, hn2, hc2⟩ := lv2.val
      subst hv2
      have hva2 := get_set (v := Value.slice sa2 (putA accts (setBal (acctAt accts a) ((acctAt accts a).bal - v_))).length sc2) hva
      have hpl := putA_len accts (setBal (acctAt accts a) ((acctAt accts a).bal - v_))
      refine l_nil ?_
      refine hK13 _ _ ?_
      refine fg3 3 0 6 (gS rfl (gS rfl (gS rfl (gS rfl (gS rfl (gS rfl (gS rfl (gS rfl g0)))))))) (gS rfl (gS rfl (gS rfl (gS rfl (gS rfl (gS rfl (gS rfl g0))))))) (gS rfl (gS rfl (gS rfl (gS rfl (gS rfl g0))))) (fun g => ?_)
      refine c_draw Up 8 [(0, true), (1, true), (2, true), (3, true), (6, true), (4, false), (5, true), (7, false), (8, false)] (by kernel_rfl) (fun w15 hu => ⟨Up.refl _, ?_⟩)
      replace G := G.tr (Go.ofUp hF hu)
      replace hF := hF.up hu
      replace k2 := k2.up hu
      replace k3 := k3.up hu
      replace kS := kS.up hu
      replace U := U.tr hu
      have SU := Up.refl w15
      refine p_step (by exact rfl) (y_moveV (et (gS rfl g0) rfl)) ?_
      refine p_step (by exact rfl) (y_loadB agg_25 sz_25 (et (gS rfl g0) rfl) (by first | (simp only [Value.cells, hV, aV, bV, wV, wL, List.size_toArray, length_bL, length_uL, length_be, size_spl, List.length_cons, List.length_nil, List.length_replicate, Nat.zero_add, Nat.reduceAdd, Nat.reduceLeDiff, Nat.le_refl]; done) | rfl) (atSB k3)) ?_
      refine p_step (by exact rfl) (y_moveV (et (gS rfl (gS rfl (gS rfl g0))) rfl)) ?_
      refine p_step (by exact rfl) (y_loadB agg_25 sz_25 (et (gS rfl (gS rfl (gS rfl g0))) rfl) (by first | (simp only [Value.cells, hV, aV, bV, wV, wL, List.size_toArray, length_bL, length_uL, length_be, size_spl, List.length_cons, List.length_nil, List.length_replicate, Nat.zero_add, Nat.reduceAdd, Nat.reduceLeDiff, Nat.le_refl]; done) | rfl) (atSB k3)) ?_
      refine p_step (by exact rfl) (y_moveV (et (gS rfl (gS rfl (gS rfl (gS rfl (gS rfl (gS rfl g0)))))) rfl)) ?_
      refine p_eff (by exact rfl) (e_callV cal_43 (aC (et (gS rfl (gS rfl g0)) rfl) (aC (et (gS rfl g0) rfl) aN)) (yp_account bs o sc2 b sa2 _ _ _ _ hF kS hva2 lv2 hb (by omega))) (fun v16 w16 h16 => ?_)
      obtain ⟨c1, rfl, hP1, u16⟩ := h16
      replace G := G.tr (Go.ofUp hF u16)
      replace hF := hF.up u16
      replace k2 := k2.up u16
      replace k3 := k3.up u16
      replace kS := kS.up u16
      replace U := U.tr u16
      generalize hAy : acctAt (putA accts (setBal (acctAt accts a) ((acctAt accts a).bal - v_))) b = Ay at hP1
      obtain ⟨vny, vby, vcy, vsy, hcy, hny, hbby, hcdy, hb1y, hb2y⟩ := acct_form hP1
      rw [hcy]
      refine ⟨.inr (SU.tr u16), ?_⟩
      replace SU := SU.tr u16
      refine p_step (by exact rfl) (y_fldV (f := 2) Hvaa.underlying107 rfl rfl rfl one_95 (et g0 rfl) ((app20 (i := 1) rfl).trans rfl)) ?_
      refine p_eff (by exact rfl) (e_callV cal_34 (aC (et g0 rfl) (aC (et (gS rfl (gS rfl g0)) rfl) aN)) (nat_add hF hbby hV (bd_sm (bd_W hb2y) (by decide)) (bd_sm hvb (by decide)))) (fun v17 w17 h17 => ?_)
      obtain ⟨H17, g17, n17⟩ := h17
      have hlew17 := g17.le
      replace nb2 := g17.nb nb2 k2.lt
      replace nb3 := g17.nb nb3 k3.lt
      replace nbS := g17.nb nbS kS.lt
      replace hL := hL.mono hlew17
      replace hV := hV.mono hlew17
      replace hbbx := hbbx.mono hlew17
      replace n6 := n6.mono hlew17
      replace lv2 := lv2.mono hlew17
      replace hbby := hbby.mono hlew17
      replace k2 := k2.up g17.up
      replace k3 := k3.up g17.up
      replace kS := kS.up g17.up
      replace U := U.tr g17.up
      replace G := G.tr g17
      replace hF := g17.fz
      have q17 := bd_add (c := 33) (bd_W hb2y) hvb (by decide)
      refine ⟨.inr (SU.tr g17.up), ?_⟩
      replace SU := SU.tr g17.up
      refine p_eff (by exact rfl) (e_callV cal_49 (aC (et (gS rfl (gS rfl (gS rfl (gS rfl (gS rfl (gS rfl (gS rfl g0))))))) rfl) (aC (et (gS rfl (gS rfl (gS rfl (gS rfl (gS rfl (gS rfl g0)))))) rfl) (aC (et g0 rfl) aN))) (yp_setBalance bs o sc2 b sa2 _ _ _ _ hF kS nbS hva2 lv2 hb (by omega) n17 (by rw [← hAy]; exact hsum))) (fun v18 w18 h18 => ?_)
      obtain ⟨rfl, v3, H18, g18, lv3, kS3⟩ := h18
      have hlew18 := g18.le
      replace nb2 := g18.nb nb2 k2.lt
      replace nb3 := g18.nb nb3 k3.lt
      replace nbS := g18.nb nbS kS.lt
      replace hL := hL.mono hlew18
      replace hV := hV.mono hlew18
      replace hbbx := hbbx.mono hlew18
      replace n6 := n6.mono hlew18
      replace lv2 := lv2.mono hlew18
      replace hbby := hbby.mono hlew18
      replace n17 := n17.mono hlew18
      replace k2 := k2.ch g18.ch (by omega)
      replace k3 := k3.ch g18.ch (by omega)
      replace kS := kS3
      replace U := U.cc g18.ch (by intro b hb; first | omega | exact .inl hb | exact .inr (hb ▸ U))
      replace G := G.trans g18 (by intro b hb; first | omega | exact .inl hb | (simp at hb ⊢; omega))
      replace hF := g18.fz
      refine ⟨.inl rfl, ?_⟩
      refine p_nil ?_
      refine end0 rfl ?_
      refine ⟨rfl, v3, _, G, ?_, by rw [← set_set]; exact kS⟩
      rw [moveA, if_neg hno]
      rw [← hAy] at lv3
      exact lv3
end Go.Proofs.YgvaawGreat
