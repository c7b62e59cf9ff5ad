import Derived.Test.YgvaawGreatY31
set_option maxRecDepth 100000
set_option maxHeartbeats 4000000
set_option linter.unusedSimpArgs false
set_option linter.unusedVariables false
namespace Go.Proofs.YgvaawGreat
open Go
def goneA (l : List YAcct) (a : Nat) : List YAcct := putA l ⟨a, 0, (acctAt l a).bal, [], []⟩
def goesA (l : List YAcct) (g : List Nat) : List YAcct := g.foldl goneA l
theorem goes_take {l : List YAcct} {g : List Nat} {i : Nat} (h : i < g.length) : goesA l (g.take (i + 1)) = goneA (goesA l (g.take i)) g[i] := by
  unfold goesA
  rw [← List.take_append_getElem h, List.foldl_append]
  rfl
theorem goes_len (l : List YAcct) : ∀ (g : List Nat) (m : List YAcct), (g.foldl goneA m).length ≤ m.length + g.length
  | [], m => by simp
  | a :: g, m => by
    rw [List.foldl_cons, List.length_cons]
    have h1 := goes_len l g (goneA m a)
    have h2 := putA_len m ⟨a, 0, (acctAt m a).bal, [], []⟩
    unfold goneA at h1 ⊢
    omega
theorem gone_cells {H : Store} {vb : Value} {a b : Nat} (ha : a < A160) (hb : NV H vb b) (hw : b < W256) : P_acct H (bL (be 20 a) ++ [.slice none 0 0, vb, .slice none 0 0, .slice none 0 0]) ⟨a, 0, b, [], []⟩ :=
  ⟨_, _, _, _, rfl, ha, NV.nil H, hb, BV.nil H, LV.nil _ _ H, (show 0 < 18446744073709551616 by decide), hw, (show 0 < 4294967296 by decide)⟩
theorem yp_goes {w : World} {H : Store} (hF : Fz w H) (bs sc gsc : Nat) (sa gsa : Option Addr) (cs : Array Value) (xs : List YAcct) (gl : List Nat) (kS : Blk w bs cs) (nbS : ¬ H.has bs) (hva : cs[0]? = some (.slice sa xs.length sc)) (hL : LV P_acct 24 H (.slice sa xs.length sc) xs) (hvg : cs[7]? = some (.slice gsa gl.length gsc)) (hG : LV P_addr 20 H (.slice gsa gl.length gsc) gl) (hn : xs.length + gl.length < 2147483600) :
    Ret 72 [.pointer (some ⟨bs, 0, none⟩)] w (fun v w' => v = .tuple #[] ∧ ∃ v' H', Go (fun k => k = bs) w H w' H' ∧ LV P_acct 24 H' v' (goesA xs gl) ∧ Blk w' bs (cs.setIfInBounds (0 + 0) v')) := by
  have lS := kS.lt
  refine enter (n := 22) Hvaa.func72 rfl rfl (Nat.le_of_ble_eq_true rfl) ?_
  have U : Ch (fun k => k = bs) w w := Ch.refl _ w
  have G : Go (fun k => k = bs) w H w H := Go.refl hF
  have hL0 : Le H H := Le.refl H
  refine c_seq (fun K1 hK1 => ?_)
  exact (by
    refine c_region ?_
    refine l_step (y_moveV (et g0 rfl)) ?_
    refine l_step (y_nil (et g0 rfl)) ?_
    refine l_step (y_fld fld_98_7 (et g0 rfl)) ?_
    refine l_step (y_load1 one_93 (et g0 rfl) (at1 (kS.cell hvg))) ?_
    refine l_step (y_len Hvaa.underlying93 (et g0 rfl)) ?_
    refine l_step y_moveC ?_
    refine l_nil ?_
    refine hK1 _ _ ?_
    refine fg4 0 7 8 9 (gS rfl (gS rfl (gS rfl (gS rfl (gS rfl (gS rfl g0)))))) (gS rfl (gS rfl g0)) (gS rfl g0) g0 (fun g => ?_)
    refine c_block (fun Q2 hQ2 => ?_)
    refine fg4 0 7 8 9 (gS rfl (gS rfl (gS rfl g0))) (gS rfl (gS rfl g0)) (gS rfl g0) g0 (fun g => ?_)
    replace kS : Blk w bs (cs.setIfInBounds (0 + 0) (.slice sa xs.length sc)) := by rw [Nat.add_zero, set_self hva]; exact kS
    refine c_loop (fun k_ s_ W3 => ∃ (g : Nat → Value) (Hk3 : Store) (va : Value) (i : Nat), s_ = (upd (upd (upd (upd g 0 (.pointer (some ⟨bs, 0, none⟩))) 7 (.slice gsa gl.length gsc)) 8 (.int .i64 (gl.length : Nat))) 9 (.int .i64 (i : Nat))) ∧ gl.length - i = k_ ∧ (i ≤ gl.length) ∧ (LV P_acct 24 Hk3 va (goesA xs (gl.take i))) ∧ Blk W3 bs (cs.setIfInBounds (0 + 0) va) ∧ Go (fun k => k = bs) w H W3 Hk3) (gl.length - (0)) ?_ ?_
    · exact ⟨g, _, _, 0, rfl, rfl, Nat.zero_le _, by rw [List.take_zero]; exact hL, kS, Go.refl hF⟩
    · skip
      intro k_ s_ W3 hI K3 hK3
      obtain ⟨g, Hk3, va, i, rfl, rfl, hi, hA, nkS, V3⟩ := hI
      have hle3 := V3.le
      replace nbS := V3.nb nbS kS.lt
      replace hL0 := hL0.trans hle3
      replace G := G.trans V3 (by intro b hb; first | exact hb.elim | omega | (simp at hb ⊢; omega))
      replace hF := V3.fz
      replace kS := nkS
      replace U := U.cc V3.ch (by intro b hb; first | exact hb.elim | omega | (simp at hb ⊢; omega))
      obtain ⟨aa9, ac9, rfl, hal9, hac9⟩ := hA.val
      have hlen9 := goes_len xs (gl.take i) xs
      have hlg9 : (gl.take i).length ≤ gl.length := by rw [List.length_take]; omega
      have hlx9 : (goesA xs (gl.take i)).length ≤ xs.length + gl.length := by unfold goesA; omega
      refine c_seq (fun K4 hK4 => ?_)
      exact (by
        refine c_region ?_
        refine l_step (y_lss (et g0 rfl) (et (gS rfl g0) rfl)) ?_
        refine l_nil ?_
        refine hK4 _ _ ?_
        refine c_seq (fun K5 hK5 => ?_)
        refine c_cond (et g0 rfl) (fun cB1 => ?_) (fun cB1 => ?_)
        · skip
          
          have hil : i < gl.length := by have := of_decide_eq_true cB1; omega
          refine c_skip ?_
          refine hK5 _ _ ?_
          refine fg4 0 7 8 9 (gS rfl (gS rfl (gS rfl (gS rfl g0)))) (gS rfl (gS rfl (gS rfl g0))) (gS rfl (gS rfl g0)) (gS rfl g0) (fun g => ?_)
          refine c_seq (fun K7 hK7 => ?_)
          refine c_block (fun Q8 hQ8 => ?_)
          refine c_seq (fun K9 hK9 => ?_)
          exact (by
            refine c_region ?_
            obtain ⟨bq, oq, r, ha0, hrow, hrl, hr1, hal⟩ := (hG.mono hL0).row hF (i := i) hil
            rw [hr1] at hrow
            refine l_step (y_idxSa ha0 Hvaa.underlying93 sz_25 (et (gS rfl (gS rfl g0)) rfl) (et g0 rfl) ?_) ?_
            omega
            refine l_step (y_loadR agg_25 sz_25 (et g0 rfl) (by rw [length_bL, length_be]) (at1R hrow)) ?_
            refine l_eff (e_alloc zr_25) (fun v10 w10 h10 => ?_)
            obtain ⟨b10, rfl, n10⟩ := h10
            have f10 : w.heap.size ≤ b10 := Nat.le_trans U.size n10.fresh
            have nb10 := hF.nb n10.fresh
            have fV3_10 := Nat.le_trans V3.ch.size n10.fresh
            replace G := G.tr (Go.ofUp hF n10.up)
            replace V3 := V3.tr (Go.ofUp hF n10.up)
            replace hF := hF.up n10.up
            replace kS := kS.up n10.up
            replace U := U.tr n10.up
            have k10 := n10.blk
            refine l_effN (e_store sz_25 (et g0 rfl) (cellsV (et (gS rfl g0) rfl) rfl) (by rw [length_bL, length_be]) (by exact one_bL _) k10 (by exact Nat.le_of_ble_eq_true rfl)) (fun v11 w11 h11 => ?_)
            obtain ⟨rfl, x11⟩ := h11
            replace kS := kS.ch x11.ch (by first | omega | (omega))
            replace k10 := x11.blk.full (by rw [length_bL, length_be]; rfl)
            replace G := G.wr x11 (by first | exact .inr f10 | omega | (simp; omega)) nb10
            replace V3 := V3.wr x11 (by first | exact .inr f10 | omega | (simp; omega)) nb10
            replace hF := G.fz
            replace U := U.st x11 (.inr f10)
            refine l_nil ?_
            refine hK9 _ _ ?_
            refine fg5 0 7 8 9 3 (gS rfl (gS rfl (gS rfl (gS rfl (gS rfl (gS rfl g0)))))) (gS rfl (gS rfl (gS rfl (gS rfl (gS rfl g0))))) (gS rfl (gS rfl (gS rfl (gS rfl g0)))) (gS rfl (gS rfl (gS rfl g0))) g0 (fun g => ?_)
            refine c_draw Up 7 [(0, true), (1, true), (2, true), (3, true), (4, false), (5, true), (6, true), (7, false)] (by kernel_rfl) (fun w12 hu => ⟨Up.refl _, ?_⟩)
            replace G := G.tr (Go.ofUp hF hu)
            replace V3 := V3.tr (Go.ofUp hF hu)
            replace hF := hF.up hu
            replace k10 := k10.up hu
            replace kS := kS.up hu
            replace U := U.tr hu
            have SU := Up.refl w12
            exact (by
              refine p_step (by exact rfl) (y_moveV (et (gS rfl (gS rfl (gS rfl (gS rfl g0)))) rfl)) ?_
              refine p_step (by exact rfl) (y_loadB agg_25 sz_25 (et (gS rfl g0) rfl) (by rw [List.size_toArray, length_bL, length_be]) (atSB k10)) ?_
              refine p_step (by exact rfl) (y_moveV (et (gS rfl (gS rfl (gS rfl (gS rfl (gS rfl (gS rfl g0)))))) rfl)) ?_
              refine p_step (by exact rfl) (y_loadB agg_25 sz_25 (et (gS rfl (gS rfl (gS rfl g0))) rfl) (by rw [List.size_toArray, length_bL, length_be]) (atSB k10)) ?_
              refine p_eff (by exact rfl) (e_callV cal_43 (aC (et (gS rfl g0) rfl) (aC (et g0 rfl) aN)) (yp_account _ 0 _ _ _ _ (goesA xs (gl.take i)) _ _ hF kS (get_set hva) hA hal (by omega))) (fun v13 w13 h13 => ?_)
              obtain ⟨c13, rfl, p13, u13⟩ := h13
              replace G := G.tr (Go.ofUp hF u13)
              replace V3 := V3.tr (Go.ofUp hF u13)
              replace hF := hF.up u13
              replace k10 := k10.up u13
              replace kS := kS.up u13
              replace U := U.tr u13
              replace p13 : PA _ _ _ := ⟨p13⟩
              refine ⟨.inr (SU.tr u13), ?_⟩
              replace SU := SU.tr u13
              obtain ⟨vn9, vb9, vc9, vs9, hc9, hn9, hb9, hcd9, hb19, hb29⟩ := acct_form p13.p
              rw [hc9]
              refine p_step (by exact rfl) (y_fldV (f := 2) Hvaa.underlying107 rfl rfl rfl one_95 (et g0 rfl) ((app20 (i := 1) rfl).trans rfl)) ?_
              have hb14 : ∀ w, (Instr.build 107 ([(0, (Value.agg (bL (be 20 gl[i])).toArray)), (2, vb9)] : List (Nat × Value)).toArray).run Hvaa.prog w = .ok (.agg ([(bL (be 20 gl[i])), [.slice none 0 0], ([vb9]), [.slice none 0 0], [.slice none 0 0]] : List (List Value)).flatten.toArray) w := bld_run zr_107 plc_107 (fill_flat (off := 0) (k := 20) (f := (List.replicate 20 (.int .u8 0))) (c := bL (be 20 gl[i])) (v := (Value.agg (bL (be 20 gl[i])).toArray)) rfl rfl (by first | (simp [length_bL, length_be, length_uL]; done) | rfl) (by first | rfl | (simp [length_bL, length_be, length_uL]; done)) rfl (by first | (simp [length_bL, length_be, length_uL]; done) | rfl) (fill_flat (off := 21) (k := 1) (f := [.slice none 0 0]) (c := [vb9]) (v := vb9) rfl (cells_one hb9.one1) (by first | (simp [length_bL, length_be, length_uL]; done) | rfl) (by first | (simp [length_bL, length_be, length_uL]; done) | rfl) rfl (by first | (simp [length_bL, length_be, length_uL]; done) | rfl) (fill_nil _ _)))
              refine p_step (by exact rfl) ((y_bld (bC (et (gS rfl (gS rfl (gS rfl (gS rfl g0)))) rfl) (bC (et g0 rfl) bN)) hb14).to (congrArg (fun l : List Value => Value.agg l.toArray) (show _ = bL (be 20 gl[i]) ++ [.slice none 0 0, vb9, .slice none 0 0, .slice none 0 0] by simp))) ?_
              refine p_eff (by exact rfl) (e_callV cal_127 (aC (et (gS rfl (gS rfl (gS rfl (gS rfl (gS rfl (gS rfl g0)))))) rfl) (aC (et g0 rfl) aN)) (yp_put _ 0 _ _ _ (goesA xs (gl.take i)) _ ⟨gl[i], 0, (acctAt (goesA xs (gl.take i)) gl[i]).bal, [], []⟩ _ _ hF kS nbS (get_set hva) hA (gone_cells hal hb9 hb29) (by omega))) (fun v15 w15 h15 => ?_)
              obtain ⟨rfl, v_15, H15, g15, lv15, kx15⟩ := h15
              have hlew15 := g15.le
              replace nb10 := g15.nb nb10 k10.lt
              replace nbS := g15.nb nbS kS.lt
              replace hA := hA.mono hlew15
              replace p13 := p13.mono hlew15
              replace hL0 := hL0.trans hlew15
              replace k10 := k10.ch g15.ch (by omega)
              replace kS := (by rw [set_set] at kx15; exact kx15)
              replace U := U.cc g15.ch (by intro b hb; first | omega | exact .inl hb | exact .inr (hb ▸ U))
              replace G := G.trans g15 (by intro b hb; first | omega | exact .inl hb | (simp at hb ⊢; omega))
              replace V3 := V3.trans g15 (by intro b hb; first | omega | exact .inl hb | (simp at hb ⊢; omega))
              replace hF := g15.fz
              refine ⟨.inl rfl, ?_⟩
              refine p_nil ?_
              refine hQ8 _ _ _ (in_normal ?_)
              refine hK7 _ _ ?_
              refine fg4 0 7 8 9 (gS rfl (gS rfl (gS rfl (gS rfl (gS rfl (gS rfl (gS rfl (gS rfl (gS rfl (gS rfl (gS rfl (gS rfl g0)))))))))))) (gS rfl (gS rfl (gS rfl (gS rfl (gS rfl (gS rfl (gS rfl (gS rfl (gS rfl (gS rfl (gS rfl g0))))))))))) (gS rfl (gS rfl (gS rfl (gS rfl (gS rfl (gS rfl (gS rfl (gS rfl (gS rfl (gS rfl g0)))))))))) (gS rfl (gS rfl (gS rfl (gS rfl (gS rfl (gS rfl (gS rfl (gS rfl (gS rfl g0))))))))) (fun g => ?_)
              refine c_region ?_
              exact (by
                refine l_step (y_add (et g0 rfl) rfl (addIN (y := 1) ?_)) ?_
                omega
                refine l_step (y_moveV (et g0 rfl)) ?_
                refine l_nil ?_
                refine fK4 0 7 8 9 (gS rfl (gS rfl (gS rfl (gS rfl (gS rfl g0))))) (gS rfl (gS rfl (gS rfl (gS rfl g0)))) (gS rfl (gS rfl (gS rfl g0))) g0 (fun g => ?_)
                exact hK3 (gl.length - ((i + 1))) _ _ (by omega) ⟨g, _, _, (i + 1), rfl, rfl, by omega, by rw [goes_take hil]; exact lv15, kS, V3⟩)))
        · skip
          
          have hil : i = gl.length := by have := of_decide_eq_false cB1; omega
          subst hil
          rw [List.take_length] at hA kS
          refine c_exit ?_
          refine hQ2 _ _ _ (in_exit ?_)
          refine end0 rfl ?_
          exact ⟨rfl, _, _, G, hA, kS⟩))
end Go.Proofs.YgvaawGreat
