import Derived.Test.YgvaawGreatZ2
set_option maxRecDepth 100000
set_option maxHeartbeats 4000000
set_option linter.unusedSimpArgs false
set_option linter.unusedVariables false
namespace Go.Proofs.YgvaawGreat
open Go
theorem uL_at {ds : List Nat} {i : Nat} (h : i < ds.length) : (uL ds)[i]? = some (.int .u64 (ds[i]?.getD 0 : Nat)) := by
  unfold uL
  rw [List.getElem?_map, List.getElem?_eq_getElem h]
  rfl
theorem y_neqNil9 {S : World → Prop} {n : Nat} {s : Nat → Value} {d : Option Nat} {ty : TypeId} {pos : String} {af : Array Edge} {g : Option (Nat × Bool)} {x y : Operand} {T T' e : Nat} {a : Addr} (hU : Hvaa.prog.underlying T = some (.pointer e)) (hx : ev n s x = .pointer (some a)) (hy : ev n s y = .pointer none) : Yv S n s ⟨d, .binOp .neq T x y T', ty, pos, af, g⟩ (.bool true) := fun w _ => by
  simp [execOp, hx, hy, eqGuard, binOp, run_equalP hU]
def dstB (code : List Nat) (a : Nat) : Bool := if a < 512 then destN code a else false
theorem m_isDest {w : World} {bc o : Nat} {cs : Array Value} {code ds : List Nat} (hbk : Blk w bc cs) (hds : RowIn cs o (uL ds)) (hD : DM code ds) (a : Nat) (ha : a < 65536) :
    Ret 373 [.pointer (some ⟨bc, o, none⟩), .int .u16 (a : Nat)] w (fun v w' => v = .bool (dstB code a) ∧ Up w w') := by
  refine enter (n := 24) Hvaa.func373 rfl rfl (Nat.le_of_ble_eq_true rfl) ?_
  have U := Up.refl w
  refine c_seq (fun K1 hK1 => ?_)
  exact (by
    refine c_region ?_
    refine l_step y_assignC ?_
    refine l_nil ?_
    refine hK1 _ _ ?_
    refine fg2 1 0 (gS rfl (gS rfl g0)) (gS rfl g0) (fun g => ?_)
    refine c_seq (fun K2 hK2 => ?_)
    exact (by
      refine c_region ?_
      refine l_step (y_moveV (et g0 rfl)) ?_
      refine l_step (y_neqNil9 Hvaa.underlying453 (et g0 rfl) rfl) ?_
      refine l_step (y_moveV (et g0 rfl)) ?_
      refine gsplitL (i := 7) g0 (fun q3 => ?_) (fun q3 => ?_)
      · skip
        refine l_gstep (j := 2) (t := 7) (by exact rfl) (by exact rfl) (et g0 rfl) (by decide) (y_moveV (et (gS rfl (gS rfl (gS rfl (gS rfl (gS rfl g0))))) rfl)) ?_
        refine l_gstep (j := 2) (t := 7) (by exact rfl) (by exact rfl) (et (gS rfl g0) rfl) (by decide) (y_lss (et g0 rfl) rfl) ?_
        refine l_step (y_pickT (et (gS rfl (gS rfl g0)) rfl) (et g0 rfl)) ?_
        refine l_step (y_moveV (et g0 rfl)) ?_
        refine gsplitL (i := 11) g0 (fun q4 => ?_) (fun q4 => ?_)
        · skip
          have hat : a < 512 := by have := of_decide_eq_true q4; omega
          refine l_gstep (j := 6) (t := 11) (by exact rfl) (by exact rfl) (et g0 rfl) (by decide) (y_moveV (et (gS rfl (gS rfl (gS rfl (gS rfl (gS rfl (gS rfl (gS rfl (gS rfl (gS rfl g0))))))))) rfl)) ?_
          refine l_gstep (j := 6) (t := 11) (by exact rfl) (by exact rfl) (et (gS rfl g0) rfl) (by decide) (y_moveV (et (gS rfl (gS rfl (gS rfl (gS rfl (gS rfl (gS rfl (gS rfl (gS rfl (gS rfl (gS rfl (gS rfl g0))))))))))) rfl)) ?_
          refine l_gstep (j := 6) (t := 11) (by exact rfl) (by exact rfl) (et (gS rfl (gS rfl g0)) rfl) (by decide) (y_quo (et g0 rfl) rfl (by decide) (quoU (b := 64) uk16 ?_)) ?_
          omega
          refine l_gstep (j := 6) (t := 11) (by exact rfl) (by exact rfl) (et (gS rfl (gS rfl (gS rfl g0))) rfl) (by decide) (y_nil (et (gS rfl (gS rfl g0)) rfl)) ?_
          refine l_gstep (j := 6) (t := 11) (by exact rfl) (by exact rfl) (et (gS rfl (gS rfl (gS rfl (gS rfl g0)))) rfl) (by decide) (y_idxA Hvaa.underlying69 sz_26 (et g0 rfl) (et (gS rfl g0) rfl) ?_ ?_) ?_
          omega
          omega
          refine l_gstep (j := 6) (t := 11) (by exact rfl) (by exact rfl) (et (gS rfl (gS rfl (gS rfl (gS rfl (gS rfl g0))))) rfl) (by decide) (y_load1 one_26 (et g0 rfl) (at1 (hbk.c1 (hds (a / 64) _ (uL_at (by rw [hD.len]; omega))) (by omega)))) ?_
          refine l_gstep (j := 6) (t := 11) (by exact rfl) (by exact rfl) (et (gS rfl (gS rfl (gS rfl (gS rfl (gS rfl (gS rfl g0)))))) rfl) (by decide) (y_moveV (et (gS rfl (gS rfl (gS rfl (gS rfl (gS rfl (gS rfl (gS rfl (gS rfl (gS rfl (gS rfl (gS rfl (gS rfl (gS rfl (gS rfl (gS rfl (gS rfl g0)))))))))))))))) rfl)) ?_
          refine l_gstep (j := 6) (t := 11) (by exact rfl) (by exact rfl) (et (gS rfl (gS rfl (gS rfl (gS rfl (gS rfl (gS rfl (gS rfl g0))))))) rfl) (by decide) (y_rem (et g0 rfl) rfl (by decide) (remN (b := 64))) ?_
          refine l_gstep (j := 6) (t := 11) (by exact rfl) (by exact rfl) (et (gS rfl (gS rfl (gS rfl (gS rfl (gS rfl (gS rfl (gS rfl (gS rfl g0)))))))) rfl) (by decide) (y_shr (et (gS rfl (gS rfl g0)) rfl) (et g0 rfl) ?_ (shr64N ?_)) ?_
          omega
          omega
          refine l_gstep (j := 6) (t := 11) (by exact rfl) (by exact rfl) (et (gS rfl (gS rfl (gS rfl (gS rfl (gS rfl (gS rfl (gS rfl (gS rfl (gS rfl g0))))))))) rfl) (by decide) (y_andM 1 2 uk64 (et g0 rfl) rfl ?_ rfl rfl (by decide)) ?_
          (refine Nat.lt_of_le_of_lt (Nat.div_le_self _ _) (hD.lt _ ?_); rw [List.getElem?_eq_getElem (by rw [hD.len]; omega), Option.getD_some]; exact List.getElem_mem _)
          refine l_gstep (j := 6) (t := 11) (by exact rfl) (by exact rfl) (et (gS rfl (gS rfl (gS rfl (gS rfl (gS rfl (gS rfl (gS rfl (gS rfl (gS rfl (gS rfl g0)))))))))) rfl) (by decide) (y_eql (et g0 rfl) rfl) ?_
          refine l_step (y_pickT (et (gS rfl (gS rfl (gS rfl (gS rfl (gS rfl (gS rfl (gS rfl (gS rfl (gS rfl (gS rfl (gS rfl g0))))))))))) rfl) (et g0 rfl)) ?_
          refine l_step (y_assignV (et g0 rfl)) ?_
          refine l_nil ?_
          refine hK2 _ _ ?_
          refine fg1 4 g0 (fun g => ?_)
          refine c_ret ?_
          repeat with_reducible refine then_ret ?_
          refine ret1 rfl (res_tmp (et g0 rfl)) ?_
          refine ⟨congrArg Value.bool ?_, U⟩
          rw [dstB, if_pos hat, ← hD.bit a hat, Nat.testBit_eq_decide_div_mod_eq]
          exact decide_eq_decide.2 (by omega)
        · skip
          have hat : ¬ a < 512 := by have := of_decide_eq_false q4; omega
          refine l_gskip (j := 6) (t := 11) (by exact rfl) (by exact rfl) (et g0 rfl) (by decide) (by decide) ?_
          refine l_gskip (j := 6) (t := 11) (by exact rfl) (by exact rfl) (et (gS rfl g0) rfl) (by decide) (by decide) ?_
          refine l_gskip (j := 6) (t := 11) (by exact rfl) (by exact rfl) (et (gS rfl (gS rfl g0)) rfl) (by decide) (by decide) ?_
          refine l_gskip (j := 6) (t := 11) (by exact rfl) (by exact rfl) (et (gS rfl (gS rfl (gS rfl g0))) rfl) (by decide) (by decide) ?_
          refine l_gskip (j := 6) (t := 11) (by exact rfl) (by exact rfl) (et (gS rfl (gS rfl (gS rfl (gS rfl g0)))) rfl) (by decide) (by decide) ?_
          refine l_gskip (j := 6) (t := 11) (by exact rfl) (by exact rfl) (et (gS rfl (gS rfl (gS rfl (gS rfl (gS rfl g0))))) rfl) (by decide) (by decide) ?_
          refine l_gskip (j := 6) (t := 11) (by exact rfl) (by exact rfl) (et (gS rfl (gS rfl (gS rfl (gS rfl (gS rfl (gS rfl g0)))))) rfl) (by decide) (by decide) ?_
          refine l_gskip (j := 6) (t := 11) (by exact rfl) (by exact rfl) (et (gS rfl (gS rfl (gS rfl (gS rfl (gS rfl (gS rfl (gS rfl g0))))))) rfl) (by decide) (by decide) ?_
          refine l_gskip (j := 6) (t := 11) (by exact rfl) (by exact rfl) (et (gS rfl (gS rfl (gS rfl (gS rfl (gS rfl (gS rfl (gS rfl (gS rfl g0)))))))) rfl) (by decide) (by decide) ?_
          refine l_gskip (j := 6) (t := 11) (by exact rfl) (by exact rfl) (et (gS rfl (gS rfl (gS rfl (gS rfl (gS rfl (gS rfl (gS rfl (gS rfl (gS rfl g0))))))))) rfl) (by decide) (by decide) ?_
          refine l_gskip (j := 6) (t := 11) (by exact rfl) (by exact rfl) (et (gS rfl (gS rfl (gS rfl (gS rfl (gS rfl (gS rfl (gS rfl (gS rfl (gS rfl (gS rfl g0)))))))))) rfl) (by decide) (by decide) ?_
          refine l_step (y_pickF (et (gS rfl (gS rfl (gS rfl (gS rfl (gS rfl (gS rfl (gS rfl (gS rfl (gS rfl (gS rfl (gS rfl g0))))))))))) rfl) rfl) ?_
          refine l_step (y_assignV (et g0 rfl)) ?_
          refine l_nil ?_
          refine hK2 _ _ ?_
          refine fg1 4 g0 (fun g => ?_)
          refine c_ret ?_
          repeat with_reducible refine then_ret ?_
          refine ret1 rfl (res_tmp (et g0 rfl)) ?_
          exact ⟨congrArg Value.bool (show false = dstB code a by rw [dstB, if_neg hat]), U⟩
      · skip
        cases q3))
theorem m_past {w : World} {H : Store} {col : Nat → Nat} {bc : Nat} {cs : Array Value} {V : EV} {s : YSt} {sn : List Nat} {sv : List AW} {ms : List (List Nat)} {c : Nat} {low : List YF} {f : YF} (hE : EX w H col bc cs V s sn sv ms c) (hs : s.frames = low ++ [f]) (hp : s.phase = 1) (b9 c9 : Nat) (hb9 : b9 < W256) (hc9 : c9 < W256) (hrl : s.ret.length ≤ 717280) :
    Ret 265 [.pointer (some ⟨bc, 0, none⟩), wV b9, wV c9] w (fun v w' => v = .bool (decide (s.ret.length < b9 + c9)) ∧ Up w w') := by
  obtain ⟨n9, hn9, hR⟩ := hE.topF hs
  have hB := hE.fbT hs
  have h6 := hE.six hs
  have htop := hE.cTop hs
  have hphs := hE.cPh hp
  have hbp := hB.pc
  have hbs := hB.stk
  have hbg := hB.gas
  have hbc9 := hB.code
  have hnw := hE.vl.new
  have hfz := hE.vl.fz
  have hcC := hE.vl.colC
  have hbc0 := hE.vl.kC.lt
  obtain ⟨ra9, rc9, hret9, hrb9⟩ := hE.lx.ret
  refine enter (n := 37) Hvaa.func265 rfl rfl (Nat.le_of_ble_eq_true rfl) ?_
  have U := Up.refl w
  refine c_seq (fun K1 hK1 => ?_)
  exact (by
    refine c_region ?_
    refine l_eff (e_boxV (et (gS rfl g0) rfl)) (fun v2 w2 h2 => ?_)
    obtain ⟨b2, rfl, n2⟩ := h2
    have f2 : w.heap.size ≤ b2 := Nat.le_trans U.size n2.fresh
    replace hE := hE.up n2.up
    replace U := U.tr n2.up
    have k2 := n2.blk
    refine l_eff (e_boxV (et (gS rfl (gS rfl (gS rfl g0))) rfl)) (fun v3 w3 h3 => ?_)
    obtain ⟨b3, rfl, n3⟩ := h3
    have d2_3 : b2 < b3 := Nat.lt_of_lt_of_le k2.lt n3.fresh
    have f3 : w.heap.size ≤ b3 := Nat.le_trans U.size n3.fresh
    replace k2 := k2.up n3.up
    replace hE := hE.up n3.up
    replace U := U.tr n3.up
    have k3 := n3.blk
    refine l_step y_assignC ?_
    refine l_nil ?_
    refine hK1 _ _ ?_
    refine fg3 0 4 5 (gS rfl (gS rfl (gS rfl g0))) (gS rfl (gS rfl g0)) (gS rfl g0) (fun g => ?_)
    refine c_seq (fun K4 hK4 => ?_)
    exact (by
      refine c_region ?_
      refine l_step (y_loadB agg_65 sz_65 (et (gS rfl g0) rfl) (by first | (simp only [Value.cells, hV, aV, bV, wV, wL, List.size_toArray, length_bL, length_uL, length_be, size_spl, List.length_cons, List.length_nil, List.length_replicate, Nat.zero_add, Nat.reduceAdd, Nat.reduceLeDiff, Nat.le_refl]; done) | rfl) (at1B k2)) ?_
      refine l_step (y_loadB agg_65 sz_65 (et (gS rfl g0) rfl) (by first | (simp only [Value.cells, hV, aV, bV, wV, wL, List.size_toArray, length_bL, length_uL, length_be, size_spl, List.length_cons, List.length_nil, List.length_replicate, Nat.zero_add, Nat.reduceAdd, Nat.reduceLeDiff, Nat.le_refl]; done) | rfl) (at1B k3)) ?_
      refine l_eff (e_callV cal_164 (aC (et (gS rfl g0) rfl) (aC (et g0 rfl) aN)) (addOver_spec _ _ _ (by first | exact argN_lt hB _ | exact hB.value | assumption | decide | exact Nat.mod_lt _ (by decide)) (by first | exact argN_lt hB _ | exact hB.value | assumption | decide | exact Nat.mod_lt _ (by decide)))) (fun v5 w5 h5 => ?_)
      obtain ⟨rfl, u5⟩ := h5
      replace k2 := k2.up u5
      replace k3 := k3.up u5
      replace hE := hE.up u5
      replace U := U.tr u5
      refine l_step (y_moveV (et g0 rfl)) ?_
      refine l_step (y_ext (et g0 rfl) rfl) ?_
      refine l_step (y_ext (et (gS rfl g0) rfl) rfl) ?_
      refine l_eff (e_alloc zr_65) (fun v6 w6 h6 => ?_)
      obtain ⟨b6, rfl, n6⟩ := h6
      have d2_6 : b2 < b6 := Nat.lt_of_lt_of_le k2.lt n6.fresh
      have d3_6 : b3 < b6 := Nat.lt_of_lt_of_le k3.lt n6.fresh
      have f6 : w.heap.size ≤ b6 := Nat.le_trans U.size n6.fresh
      replace k2 := k2.up n6.up
      replace k3 := k3.up n6.up
      replace hE := hE.up n6.up
      replace U := U.tr n6.up
      have k6 := n6.blk
      obtain ⟨zs6, hz6, k6⟩ : ∃ cs : Array Value, cs.size = 4 ∧ Blk w6 b6 cs := ⟨_, rfl, k6⟩
      refine l_effN (e_store sz_65 (et g0 rfl) (cellsV (et (gS rfl (gS rfl g0)) rfl) rfl) rfl (by exact one_uL _) k6 (by (rw [hz6]; exact Nat.le_refl _))) (fun v7 w7 h7 => ?_)
      obtain ⟨rfl, x7⟩ := h7
      replace k2 := k2.ch x7.ch (by omega)
      replace k3 := k3.ch x7.ch (by omega)
      replace hE := hE.ch x7.ch (by first | omega | (intro b hb; first | (subst hb; exact ⟨hnw _ (by omega), fun hh => by have := hfz.lt hh; omega⟩) | (rcases hb with hb | hb <;> (subst hb; exact ⟨hnw _ (by omega), fun hh => by have := hfz.lt hh; omega⟩))))
      replace k6 := x7.blk.full (by rw [hz6]; rfl)
      replace U := U.st x7 f6
      refine l_step (y_assignV (et (gS rfl g0) rfl)) ?_
      refine l_nil ?_
      refine hK4 _ _ ?_
      refine fg3 0 7 8 (gS rfl (gS rfl (gS rfl (gS rfl (gS rfl (gS rfl (gS rfl (gS rfl (gS rfl (gS rfl g0)))))))))) (gS rfl g0) g0 (fun g => ?_)
      refine c_seq (fun K8 hK8 => ?_)
      exact (by
        refine c_region ?_
        refine l_step (y_loadB agg_65 sz_65 (et (gS rfl g0) rfl) rfl (at1B k6)) ?_
        refine l_eff (e_callV cal_300 (aC (et g0 rfl) aN) (wU64_lo _ _ (Nat.mod_lt _ (by decide)))) (fun v9 w9 h9 => ?_)
        obtain ⟨rfl, u9⟩ := h9
        replace k2 := k2.up u9
        replace k3 := k3.up u9
        replace k6 := k6.up u9
        replace hE := hE.up u9
        replace U := U.tr u9
        refine l_step (y_moveV (et g0 rfl)) ?_
        refine l_step (y_ext (et g0 rfl) rfl) ?_
        refine l_step (y_ext (et (gS rfl g0) rfl) rfl) ?_
        refine l_step (y_assignV (et (gS rfl g0) rfl)) ?_
        refine l_step (y_assignV (et (gS rfl g0) rfl)) ?_
        refine l_nil ?_
        refine hK8 _ _ ?_
        refine fg4 0 8 9 10 (gS rfl (gS rfl (gS rfl (gS rfl (gS rfl (gS rfl (gS rfl (gS rfl (gS rfl g0))))))))) (gS rfl (gS rfl (gS rfl (gS rfl (gS rfl (gS rfl (gS rfl g0))))))) (gS rfl g0) g0 (fun g => ?_)
        refine c_seq (fun K10 hK10 => ?_)
        exact (by
          refine c_region ?_
          refine l_step (y_moveV (et (gS rfl (gS rfl g0)) rfl)) ?_
          refine l_step (y_moveV (et g0 rfl)) ?_
          refine gsplitL (i := 23) g0 (fun q11 => ?_) (fun q11 => ?_)
          · skip
            have e1 : W256 ≤ b9 + c9 := of_decide_eq_true q11
            refine l_gskip (j := 1) (t := 23) (by exact rfl) (by exact rfl) (et g0 rfl) (by decide) (by decide) ?_
            refine l_gskip (j := 1) (t := 23) (by exact rfl) (by exact rfl) (et (gS rfl g0) rfl) (by decide) (by decide) ?_
            refine l_step (y_pickT (et (gS rfl (gS rfl g0)) rfl) rfl) ?_
            refine l_step (y_moveV (et g0 rfl)) ?_
            refine l_gskip (j := 5) (t := 27) (by exact rfl) (by exact rfl) (et g0 rfl) (by decide) (by decide) ?_
            refine l_gskip (j := 5) (t := 27) (by exact rfl) (by exact rfl) (et (gS rfl g0) rfl) (by decide) (by decide) ?_
            refine l_gskip (j := 5) (t := 27) (by exact rfl) (by exact rfl) (et (gS rfl (gS rfl g0)) rfl) (by decide) (by decide) ?_
            refine l_gskip (j := 5) (t := 27) (by exact rfl) (by exact rfl) (et (gS rfl (gS rfl (gS rfl g0))) rfl) (by decide) (by decide) ?_
            refine l_gskip (j := 5) (t := 27) (by exact rfl) (by exact rfl) (et (gS rfl (gS rfl (gS rfl (gS rfl g0)))) rfl) (by decide) (by decide) ?_
            refine l_gskip (j := 5) (t := 27) (by exact rfl) (by exact rfl) (et (gS rfl (gS rfl (gS rfl (gS rfl (gS rfl g0))))) rfl) (by decide) (by decide) ?_
            refine l_gskip (j := 5) (t := 27) (by exact rfl) (by exact rfl) (et (gS rfl (gS rfl (gS rfl (gS rfl (gS rfl (gS rfl g0)))))) rfl) (by decide) (by decide) ?_
            refine l_gskip (j := 5) (t := 27) (by exact rfl) (by exact rfl) (et (gS rfl (gS rfl (gS rfl (gS rfl (gS rfl (gS rfl (gS rfl g0))))))) rfl) (by decide) (by decide) ?_
            refine l_step (y_pickT (et (gS rfl (gS rfl (gS rfl (gS rfl (gS rfl (gS rfl (gS rfl (gS rfl g0)))))))) rfl) rfl) ?_
            refine l_step (y_assignV (et g0 rfl)) ?_
            refine l_nil ?_
            refine hK10 _ _ ?_
            refine fg1 6 g0 (fun g => ?_)
            refine c_ret ?_
            repeat with_reducible refine then_ret ?_
            refine ret1 rfl (res_tmp (et g0 rfl)) ?_
            have e5 : s.ret.length < b9 + c9 := by unfold W256 at e1; omega
            exact ⟨congrArg Value.bool (decide_eq_true e5).symm, U⟩
          · skip
            have e1 : b9 + c9 < W256 := by have := of_decide_eq_false q11; omega
            have e4 : (b9 + c9) % W256 = b9 + c9 := Nat.mod_eq_of_lt e1
            refine l_gstep (j := 1) (t := 23) (by exact rfl) (by exact rfl) (et g0 rfl) (by decide) (y_moveV (et (gS rfl (gS rfl (gS rfl g0))) rfl)) ?_
            refine l_gstep (j := 1) (t := 23) (by exact rfl) (by exact rfl) (et (gS rfl g0) rfl) (by decide) (y_not (et g0 rfl)) ?_
            refine l_step (y_pickF (et (gS rfl (gS rfl g0)) rfl) (et g0 rfl)) ?_
            refine l_step (y_moveV (et g0 rfl)) ?_
            refine gsplitL (i := 27) g0 (fun q12 => ?_) (fun q12 => ?_)
            · skip
              have e2 : 18446744073709551616 ≤ (b9 + c9) % W256 := by simpa using q12
              refine l_gskip (j := 5) (t := 27) (by exact rfl) (by exact rfl) (et g0 rfl) (by decide) (by decide) ?_
              refine l_gskip (j := 5) (t := 27) (by exact rfl) (by exact rfl) (et (gS rfl g0) rfl) (by decide) (by decide) ?_
              refine l_gskip (j := 5) (t := 27) (by exact rfl) (by exact rfl) (et (gS rfl (gS rfl g0)) rfl) (by decide) (by decide) ?_
              refine l_gskip (j := 5) (t := 27) (by exact rfl) (by exact rfl) (et (gS rfl (gS rfl (gS rfl g0))) rfl) (by decide) (by decide) ?_
              refine l_gskip (j := 5) (t := 27) (by exact rfl) (by exact rfl) (et (gS rfl (gS rfl (gS rfl (gS rfl g0)))) rfl) (by decide) (by decide) ?_
              refine l_gskip (j := 5) (t := 27) (by exact rfl) (by exact rfl) (et (gS rfl (gS rfl (gS rfl (gS rfl (gS rfl g0))))) rfl) (by decide) (by decide) ?_
              refine l_gskip (j := 5) (t := 27) (by exact rfl) (by exact rfl) (et (gS rfl (gS rfl (gS rfl (gS rfl (gS rfl (gS rfl g0)))))) rfl) (by decide) (by decide) ?_
              refine l_gskip (j := 5) (t := 27) (by exact rfl) (by exact rfl) (et (gS rfl (gS rfl (gS rfl (gS rfl (gS rfl (gS rfl (gS rfl g0))))))) rfl) (by decide) (by decide) ?_
              refine l_step (y_pickT (et (gS rfl (gS rfl (gS rfl (gS rfl (gS rfl (gS rfl (gS rfl (gS rfl g0)))))))) rfl) rfl) ?_
              refine l_step (y_assignV (et g0 rfl)) ?_
              refine l_nil ?_
              refine hK10 _ _ ?_
              refine fg1 6 g0 (fun g => ?_)
              refine c_ret ?_
              repeat with_reducible refine then_ret ?_
              refine ret1 rfl (res_tmp (et g0 rfl)) ?_
              have e5 : s.ret.length < b9 + c9 := by omega
              exact ⟨congrArg Value.bool (decide_eq_true e5).symm, U⟩
            · skip
              have e2 : (b9 + c9) % W256 < 18446744073709551616 := by simpa using q12
              have e3 : lo64 ((b9 + c9) % W256) = (b9 + c9) % W256 := if_pos e2
              refine l_gstep (j := 5) (t := 27) (by exact rfl) (by exact rfl) (et g0 rfl) (by decide) (y_moveV (et (gS rfl (gS rfl (gS rfl (gS rfl (gS rfl (gS rfl (gS rfl (gS rfl (gS rfl g0))))))))) rfl)) ?_
              refine l_gstep (j := 5) (t := 27) (by exact rfl) (by exact rfl) (et (gS rfl g0) rfl) (by decide) (y_moveV (et (gS rfl (gS rfl (gS rfl (gS rfl (gS rfl (gS rfl (gS rfl (gS rfl (gS rfl (gS rfl (gS rfl (gS rfl g0)))))))))))) rfl)) ?_
              refine l_gstep (j := 5) (t := 27) (by exact rfl) (by exact rfl) (et (gS rfl (gS rfl g0)) rfl) (by decide) (y_nil (et g0 rfl)) ?_
              refine l_gstep (j := 5) (t := 27) (by exact rfl) (by exact rfl) (et (gS rfl (gS rfl (gS rfl g0))) rfl) (by decide) (y_fld fld_75_5 (et g0 rfl)) ?_
              refine l_gstep (j := 5) (t := 27) (by exact rfl) (by exact rfl) (et (gS rfl (gS rfl (gS rfl (gS rfl g0)))) rfl) (by decide) (y_load1 one_38 (et g0 rfl) (at1 (hE.vl.c1 hret9 rfl))) ?_
              refine l_gstep (j := 5) (t := 27) (by exact rfl) (by exact rfl) (et (gS rfl (gS rfl (gS rfl (gS rfl (gS rfl g0))))) rfl) (by decide) (y_len Hvaa.underlying38 (et g0 rfl)) ?_
              refine l_gstep (j := 5) (t := 27) (by exact rfl) (by exact rfl) (et (gS rfl (gS rfl (gS rfl (gS rfl (gS rfl (gS rfl g0)))))) rfl) (by decide) (y_conv Hvaa.underlying3 Hvaa.underlying26 (et g0 rfl) (wrapU_id uk64 ?_)) ?_
              omega
              refine l_gstep (j := 5) (t := 27) (by exact rfl) (by exact rfl) (et (gS rfl (gS rfl (gS rfl (gS rfl (gS rfl (gS rfl (gS rfl g0))))))) rfl) (by decide) (y_gtr (et (gS rfl (gS rfl (gS rfl (gS rfl (gS rfl (gS rfl g0)))))) rfl) (et g0 rfl)) ?_
              refine l_step (y_pickF (et (gS rfl (gS rfl (gS rfl (gS rfl (gS rfl (gS rfl (gS rfl (gS rfl g0)))))))) rfl) (et g0 rfl)) ?_
              refine l_step (y_assignV (et g0 rfl)) ?_
              refine l_nil ?_
              refine hK10 _ _ ?_
              refine fg1 6 g0 (fun g => ?_)
              refine c_ret ?_
              repeat with_reducible refine then_ret ?_
              refine ret1 rfl (res_tmp (et g0 rfl)) ?_
              refine ⟨congrArg Value.bool (decide_eq_decide.2 ?_), U⟩
              rw [e3, e4]
              omega))))
theorem m_opcode {w : World} {H : Store} {col : Nat → Nat} {bc : Nat} {cs : Array Value} {V : EV} {s : YSt} {sn : List Nat} {sv : List AW} {ms : List (List Nat)} {c : Nat} {low : List YF} {f : YF} (hE : EX w H col bc cs V s sn sv ms c) (hs : s.frames = low ++ [f]) (hp : s.phase = 1) :
    Ret 108 [.pointer (some ⟨bc, 0, none⟩)] w (fun v w' => v = .int .u8 (opcN f : Nat) ∧ Up w w') := by
  obtain ⟨n9, hn9, hR⟩ := hE.topF hs
  have hB := hE.fbT hs
  have h6 := hE.six hs
  have htop := hE.cTop hs
  have hphs := hE.cPh hp
  have hbp := hB.pc
  have hbs := hB.stk
  have hbg := hB.gas
  have hbc9 := hB.code
  have hnw := hE.vl.new
  have hfz := hE.vl.fz
  have hcC := hE.vl.colC
  have hbc0 := hE.vl.kC.lt
  obtain ⟨ca9, cc9, ia9, ic9, hr5, hcode, hinp⟩ := hR.r5
  refine enter (n := 31) Hvaa.func108 rfl rfl (Nat.le_of_ble_eq_true rfl) ?_
  have U := Up.refl w
  refine c_seq (fun K1 hK1 => ?_)
  exact (by
    refine c_region ?_
    refine l_step y_assignC ?_
    refine l_nil ?_
    refine hK1 _ _ ?_
    refine fg1 0 (gS rfl g0) (fun g => ?_)
    refine c_seq (fun K2 hK2 => ?_)
    exact (by
      refine c_region ?_
      refine l_step (y_moveV (et g0 rfl)) ?_
      refine l_eff (e_callV cal_183 (aC (et g0 rfl) aN) (m_running hE hs hp)) (fun v3 w3 h3 => ?_)
      obtain ⟨rfl, u3⟩ := h3
      replace hE := hE.up u3
      replace U := U.tr u3
      refine l_step (y_assignV (et g0 rfl)) ?_
      refine l_nil ?_
      refine hK2 _ _ ?_
      refine fg1 3 g0 (fun g => ?_)
      refine c_seq (fun K4 hK4 => ?_)
      refine c_seq (fun K5 hK5 => ?_)
      exact (by
        refine c_draw Up 15 [(0, true), (1, true), (2, true), (3, true), (4, true), (5, true), (6, true), (7, true), (8, true), (9, true), (10, true), (11, true), (12, true), (13, true), (14, true)] (by kernel_rfl) (fun w6 hu => ⟨Up.refl _, ?_⟩)
        replace hE := hE.up hu
        replace U := U.tr hu
        have SU := Up.refl w6
        refine p_step (by exact rfl) (y_moveV (et g0 rfl)) ?_
        refine p_step (by exact rfl) (y_eqlNil Hvaa.underlying276 (et g0 rfl) rfl) ?_
        refine p_step (by exact rfl) (y_moveV (et g0 rfl)) ?_
        refine p_gstep (j := 2) (t := 8) (by exact rfl) (by exact rfl) (by exact rfl) (et g0 rfl) rfl (y_moveV (et (gS rfl (gS rfl (gS rfl g0))) rfl)) ?_
        refine p_gstep (j := 2) (t := 8) (by exact rfl) (by exact rfl) (by exact rfl) (et (gS rfl g0) rfl) rfl (y_nil (et g0 rfl)) ?_
        refine p_gstep (j := 2) (t := 8) (by exact rfl) (by exact rfl) (by exact rfl) (et (gS rfl (gS rfl g0)) rfl) rfl (y_fld fld_71_4 (et g0 rfl)) ?_
        refine p_gstep (j := 2) (t := 8) (by exact rfl) (by exact rfl) (by exact rfl) (et (gS rfl (gS rfl (gS rfl g0))) rfl) rfl (y_load1 one_67 (et g0 rfl) (atS (hE.vl.c1 (hR.r1 4 _ rfl) (by omega)))) ?_
        refine p_gstep (j := 2) (t := 8) (by exact rfl) (by exact rfl) (by exact rfl) (et (gS rfl (gS rfl (gS rfl (gS rfl g0)))) rfl) rfl (y_conv Hvaa.underlying67 Hvaa.underlying3 (et g0 rfl) (wrap_i64 ?_ ?_)) ?_
        omega
        omega
        refine p_gstep (j := 2) (t := 8) (by exact rfl) (by exact rfl) (by exact rfl) (et (gS rfl (gS rfl (gS rfl (gS rfl (gS rfl g0))))) rfl) rfl (y_moveV (et (gS rfl (gS rfl (gS rfl (gS rfl (gS rfl (gS rfl (gS rfl (gS rfl g0)))))))) rfl)) ?_
        refine p_gstep (j := 2) (t := 8) (by exact rfl) (by exact rfl) (by exact rfl) (et (gS rfl (gS rfl (gS rfl (gS rfl (gS rfl (gS rfl g0)))))) rfl) rfl (y_nil (et g0 rfl)) ?_
        refine p_gstep (j := 2) (t := 8) (by exact rfl) (by exact rfl) (by exact rfl) (et (gS rfl (gS rfl (gS rfl (gS rfl (gS rfl (gS rfl (gS rfl g0))))))) rfl) rfl (y_fld fld_71_12 (et g0 rfl)) ?_
        refine p_gstep (j := 2) (t := 8) (by exact rfl) (by exact rfl) (by exact rfl) (et (gS rfl (gS rfl (gS rfl (gS rfl (gS rfl (gS rfl (gS rfl (gS rfl g0)))))))) rfl) rfl (y_load1 one_38 (et g0 rfl) (atS (hE.vl.c1 (hr5 0 _ rfl) (by omega)))) ?_
        refine p_gstep (j := 2) (t := 8) (by exact rfl) (by exact rfl) (by exact rfl) (et (gS rfl (gS rfl (gS rfl (gS rfl (gS rfl (gS rfl (gS rfl (gS rfl (gS rfl g0))))))))) rfl) rfl (y_len Hvaa.underlying38 (et g0 rfl)) ?_
        refine p_gstep (j := 2) (t := 8) (by exact rfl) (by exact rfl) (by exact rfl) (et (gS rfl (gS rfl (gS rfl (gS rfl (gS rfl (gS rfl (gS rfl (gS rfl (gS rfl (gS rfl g0)))))))))) rfl) rfl (y_geq (et (gS rfl (gS rfl (gS rfl (gS rfl (gS rfl g0))))) rfl) (et g0 rfl)) ?_
        refine p_step (by exact rfl) (y_pickF (et (gS rfl (gS rfl (gS rfl (gS rfl (gS rfl (gS rfl (gS rfl (gS rfl (gS rfl (gS rfl (gS rfl g0))))))))))) rfl) (et g0 rfl)) ?_
        refine p_nil ?_
        refine hK5 _ _ ?_
        refine fg2 3 20 (gS rfl (gS rfl (gS rfl (gS rfl (gS rfl (gS rfl (gS rfl (gS rfl (gS rfl (gS rfl (gS rfl (gS rfl (gS rfl (gS rfl (gS rfl g0))))))))))))))) g0 (fun g => ?_)
        refine c_cond (et g0 rfl) (fun cB1 => ?_) (fun cB1 => ?_)
        · skip
          
          have hpc9 : f.code.length ≤ f.pc := by have := of_decide_eq_true cB1; omega
          refine c_seq (fun K8 hK8 => ?_)
          exact (by
            refine c_region ?_
            refine l_step y_assignC ?_
            refine l_nil ?_
            refine hK8 _ _ ?_
            refine fg1 2 g0 (fun g => ?_)
            refine c_ret ?_
            repeat with_reducible refine then_ret ?_
            refine ret1 rfl (res_tmp (et g0 rfl)) ?_
            exact ⟨by unfold opcN; rw [List.getElem?_eq_none hpc9]; rfl, U⟩)
        · skip
          
          have hpc9 : f.pc < f.code.length := by have := of_decide_eq_false cB1; omega
          obtain ⟨db9, do9, hca9, hdb9, hdr9⟩ := (hcode.wv hE.vl.fz).at (by omega)
          subst hca9
          refine c_skip ?_
          refine hK4 _ _ ?_
          refine fg1 3 (gS rfl g0) (fun g => ?_)
          refine c_seq (fun K9 hK9 => ?_)
          exact (by
            refine c_draw Up 11 [(0, true), (1, true), (2, true), (3, true), (4, true), (5, true), (6, true), (7, true), (8, true), (9, true), (10, true)] (by kernel_rfl) (fun w10 hu => ⟨Up.refl _, ?_⟩)
            replace hE := hE.up hu
            replace U := U.tr hu
            have SU := Up.refl w10
            refine p_step (by exact rfl) (y_moveV (et g0 rfl)) ?_
            refine p_step (by exact rfl) (y_nil (et g0 rfl)) ?_
            refine p_step (by exact rfl) (y_fld fld_71_12 (et g0 rfl)) ?_
            refine p_step (by exact rfl) (y_load1 one_38 (et g0 rfl) (atS (hE.vl.c1 (hr5 0 _ rfl) (by omega)))) ?_
            refine p_step (by exact rfl) (y_moveV (et (gS rfl (gS rfl (gS rfl (gS rfl g0)))) rfl)) ?_
            refine p_step (by exact rfl) (y_nil (et g0 rfl)) ?_
            refine p_step (by exact rfl) (y_fld fld_71_4 (et g0 rfl)) ?_
            refine p_step (by exact rfl) (y_load1 one_67 (et g0 rfl) (atS (hE.vl.c1 (hR.r1 4 _ rfl) (by omega)))) ?_
            refine p_step (by exact rfl) (y_idxS Hvaa.underlying38 sz_5 (et (gS rfl (gS rfl (gS rfl (gS rfl g0)))) rfl) (et g0 rfl) ?_ ?_) ?_
            omega
            omega
            obtain ⟨db8, do8, hca8, hdb8, hdr8⟩ := (hcode.wv hE.vl.fz).at (by omega)
            cases hca8
            refine p_step (by exact rfl) (y_load1 one_5 (et g0 rfl) (atS (show _ = _ from row_byte hdr8 hpc9))) ?_
            refine p_step (by exact rfl) (y_assignV (et g0 rfl)) ?_
            refine p_nil ?_
            refine hK9 _ _ ?_
            refine fg1 2 g0 (fun g => ?_)
            refine c_ret ?_
            repeat with_reducible refine then_ret ?_
            refine ret1 rfl (res_tmp (et g0 rfl)) ?_
            exact ⟨by unfold opcN; rw [List.getElem?_eq_getElem hpc9]; rfl, U⟩))))
theorem m_writes {w : World} {H : Store} {col : Nat → Nat} {bc : Nat} {cs : Array Value} {V : EV} {s : YSt} {sn : List Nat} {sv : List AW} {ms : List (List Nat)} {c : Nat} {low : List YF} {f : YF} (hE : EX w H col bc cs V s sn sv ms c) (hs : s.frames = low ++ [f]) (hp : s.phase = 1) {pf : Nat} (hpf : pf = 1803 + 65 * low.length) (q : Nat) (hq : q < 256) :
    Ret 263 [.pointer (some ⟨bc, 0, none⟩), .pointer (some ⟨bc, pf, none⟩), .int .u8 (q : Nat)] w (fun v w' => v = .bool (wrtN f q) ∧ Up w w') := by
  obtain ⟨n9, hn9, hR⟩ := hE.topF hs
  have hB := hE.fbT hs
  have h6 := hE.six hs
  have htop := hE.cTop hs
  have hphs := hE.cPh hp
  have hbp := hB.pc
  have hbs := hB.stk
  have hbg := hB.gas
  have hbc9 := hB.code
  have hnw := hE.vl.new
  have hfz := hE.vl.fz
  have hcC := hE.vl.colC
  have hbc0 := hE.vl.kC.lt
  refine enter (n := 34) Hvaa.func263 rfl rfl (Nat.le_of_ble_eq_true rfl) ?_
  have U := Up.refl w
  refine c_seq (fun K1 hK1 => ?_)
  exact (by
    refine c_region ?_
    refine l_step y_assignC ?_
    refine l_nil ?_
    refine hK1 _ _ ?_
    refine fg3 2 1 0 (gS rfl (gS rfl (gS rfl g0))) (gS rfl (gS rfl g0)) (gS rfl g0) (fun g => ?_)
    refine c_seq (fun K2 hK2 => ?_)
    refine c_block (fun Q3 hQ3 => ?_)
    refine c_seq (fun K4 hK4 => ?_)
    refine c_seq (fun K5 hK5 => ?_)
    exact (by
      refine c_region ?_
      refine l_step (y_moveV (et (gS rfl (gS rfl g0)) rfl)) ?_
      refine l_step (y_eql (et g0 rfl) rfl) ?_
      refine l_step (y_assignV (et g0 rfl)) ?_
      refine l_nil ?_
      refine hK5 _ _ ?_
      refine fg4 2 1 0 8 (gS rfl (gS rfl (gS rfl (gS rfl (gS rfl g0))))) (gS rfl (gS rfl (gS rfl (gS rfl g0)))) (gS rfl (gS rfl (gS rfl g0))) g0 (fun g => ?_)
      refine c_cond (et g0 rfl) (fun cB1 => ?_) (fun cB1 => ?_)
      · skip
        
        have hq1 : q = 85 := by have := of_decide_eq_true cB1; omega
        refine c_skip ?_
        refine hK4 _ _ ?_
        refine c_true (et g0 rfl) (by assumption) ?_
        refine c_seq (fun K8 hK8 => ?_)
        exact (by
          refine c_region ?_
          refine l_step y_assignC ?_
          refine l_nil ?_
          refine hK8 _ _ ?_
          refine fg1 6 g0 (fun g => ?_)
          refine c_ret ?_
          refine hQ3 _ _ _ (in_ret ?_)
          repeat with_reducible refine then_ret ?_
          refine ret1 rfl (res_tmp (et g0 rfl)) ?_
          exact ⟨congrArg Value.bool (show true = wrtN f q by unfold wrtN; simp; omega), U⟩)
      · skip
        
        have hq1 : q ≠ 85 := by have := of_decide_eq_false cB1; omega
        refine c_seq (fun K9 hK9 => ?_)
        exact (by
          refine c_region ?_
          refine l_step (y_moveV (et (gS rfl (gS rfl (gS rfl g0))) rfl)) ?_
          refine l_step (y_eql (et g0 rfl) rfl) ?_
          refine l_step (y_assignV (et g0 rfl)) ?_
          refine l_nil ?_
          refine hK9 _ _ ?_
          refine fg4 2 1 0 8 (gS rfl (gS rfl (gS rfl (gS rfl (gS rfl (gS rfl g0)))))) (gS rfl (gS rfl (gS rfl (gS rfl (gS rfl g0))))) (gS rfl (gS rfl (gS rfl (gS rfl g0)))) g0 (fun g => ?_)
          refine c_cond (et g0 rfl) (fun cB2 => ?_) (fun cB2 => ?_)
          · skip
            
            have hq2 : q = 93 := by have := of_decide_eq_true cB2; omega
            refine c_skip ?_
            refine hK4 _ _ ?_
            refine c_true (et g0 rfl) (by assumption) ?_
            refine c_seq (fun K12 hK12 => ?_)
            exact (by
              refine c_region ?_
              refine l_step y_assignC ?_
              refine l_nil ?_
              refine hK12 _ _ ?_
              refine fg1 6 g0 (fun g => ?_)
              refine c_ret ?_
              refine hQ3 _ _ _ (in_ret ?_)
              repeat with_reducible refine then_ret ?_
              refine ret1 rfl (res_tmp (et g0 rfl)) ?_
              exact ⟨congrArg Value.bool (show true = wrtN f q by unfold wrtN; simp; omega), U⟩)
          · skip
            
            have hq2 : q ≠ 93 := by have := of_decide_eq_false cB2; omega
            refine c_seq (fun K13 hK13 => ?_)
            exact (by
              refine c_region ?_
              refine l_step (y_moveV (et (gS rfl (gS rfl (gS rfl g0))) rfl)) ?_
              refine l_step (y_geq (et g0 rfl) rfl) ?_
              refine l_step (y_moveV (et g0 rfl)) ?_
              refine l_gpure (j := 2) (t := 15) (by exact rfl) (by exact rfl) (et g0 rfl) rfl (fun hc => (y_moveV (et (gS rfl (gS rfl (gS rfl (gS rfl (gS rfl (gS rfl g0)))))) rfl))) ?_
              refine l_gpure (j := 2) (t := 15) (by exact rfl) (by exact rfl) (et (gS rfl g0) rfl) rfl (fun hc => (y_leq (et (cT g0 hc) rfl) rfl)) ?_
              refine l_step (y_pickA (et (gS rfl (gS rfl g0)) rfl) (et g0 rfl) rfl) ?_
              refine l_step (y_assignV (et g0 rfl)) ?_
              refine l_nil ?_
              refine hK13 _ _ ?_
              refine fg4 2 1 0 8 (gS rfl (gS rfl (gS rfl (gS rfl (gS rfl (gS rfl (gS rfl (gS rfl (gS rfl (gS rfl g0)))))))))) (gS rfl (gS rfl (gS rfl (gS rfl (gS rfl (gS rfl (gS rfl (gS rfl (gS rfl g0))))))))) (gS rfl (gS rfl (gS rfl (gS rfl (gS rfl (gS rfl (gS rfl (gS rfl g0)))))))) g0 (fun g => ?_)
              refine c_cond (et g0 rfl) (fun cB3 => ?_) (fun cB3 => ?_)
              · skip
                
                have hq3 : 160 ≤ q ∧ q ≤ 164 := by simp only [Bool.and_eq_true, decide_eq_true_eq] at cB3; omega
                refine c_skip ?_
                refine hK4 _ _ ?_
                refine c_true (et g0 rfl) (by assumption) ?_
                refine c_seq (fun K16 hK16 => ?_)
                exact (by
                  refine c_region ?_
                  refine l_step y_assignC ?_
                  refine l_nil ?_
                  refine hK16 _ _ ?_
                  refine fg1 6 g0 (fun g => ?_)
                  refine c_ret ?_
                  refine hQ3 _ _ _ (in_ret ?_)
                  repeat with_reducible refine then_ret ?_
                  refine ret1 rfl (res_tmp (et g0 rfl)) ?_
                  exact ⟨congrArg Value.bool (show true = wrtN f q by unfold wrtN; simp; omega), U⟩)
              · skip
                
                have hq3 : ¬ (160 ≤ q ∧ q ≤ 164) := by intro h9; simp only [Bool.and_eq_false_imp, decide_eq_true_eq, decide_eq_false_iff_not] at cB3; omega
                refine c_seq (fun K17 hK17 => ?_)
                exact (by
                  refine c_region ?_
                  refine l_step (y_moveV (et (gS rfl (gS rfl (gS rfl g0))) rfl)) ?_
                  refine l_step (y_eql (et g0 rfl) rfl) ?_
                  refine l_step (y_assignV (et g0 rfl)) ?_
                  refine l_nil ?_
                  refine hK17 _ _ ?_
                  refine fg4 2 1 0 8 (gS rfl (gS rfl (gS rfl (gS rfl (gS rfl (gS rfl g0)))))) (gS rfl (gS rfl (gS rfl (gS rfl (gS rfl g0))))) (gS rfl (gS rfl (gS rfl (gS rfl g0)))) g0 (fun g => ?_)
                  refine c_cond (et g0 rfl) (fun cB4 => ?_) (fun cB4 => ?_)
                  · skip
                    
                    have hq4 : q = 240 := by have := of_decide_eq_true cB4; omega
                    refine c_skip ?_
                    refine hK4 _ _ ?_
                    refine c_true (et g0 rfl) (by assumption) ?_
                    refine c_seq (fun K20 hK20 => ?_)
                    exact (by
                      refine c_region ?_
                      refine l_step y_assignC ?_
                      refine l_nil ?_
                      refine hK20 _ _ ?_
                      refine fg1 6 g0 (fun g => ?_)
                      refine c_ret ?_
                      refine hQ3 _ _ _ (in_ret ?_)
                      repeat with_reducible refine then_ret ?_
                      refine ret1 rfl (res_tmp (et g0 rfl)) ?_
                      exact ⟨congrArg Value.bool (show true = wrtN f q by unfold wrtN; simp; omega), U⟩)
                  · skip
                    
                    have hq4 : q ≠ 240 := by have := of_decide_eq_false cB4; omega
                    refine c_seq (fun K21 hK21 => ?_)
                    exact (by
                      refine c_region ?_
                      refine l_step (y_moveV (et (gS rfl (gS rfl (gS rfl g0))) rfl)) ?_
                      refine l_step (y_eql (et g0 rfl) rfl) ?_
                      refine l_step (y_assignV (et g0 rfl)) ?_
                      refine l_nil ?_
                      refine hK21 _ _ ?_
                      refine fg4 2 1 0 8 (gS rfl (gS rfl (gS rfl (gS rfl (gS rfl (gS rfl g0)))))) (gS rfl (gS rfl (gS rfl (gS rfl (gS rfl g0))))) (gS rfl (gS rfl (gS rfl (gS rfl g0)))) g0 (fun g => ?_)
                      refine c_cond (et g0 rfl) (fun cB5 => ?_) (fun cB5 => ?_)
                      · skip
                        
                        have hq5 : q = 245 := by have := of_decide_eq_true cB5; omega
                        refine c_skip ?_
                        refine hK4 _ _ ?_
                        refine c_true (et g0 rfl) (by assumption) ?_
                        refine c_seq (fun K24 hK24 => ?_)
                        exact (by
                          refine c_region ?_
                          refine l_step y_assignC ?_
                          refine l_nil ?_
                          refine hK24 _ _ ?_
                          refine fg1 6 g0 (fun g => ?_)
                          refine c_ret ?_
                          refine hQ3 _ _ _ (in_ret ?_)
                          repeat with_reducible refine then_ret ?_
                          refine ret1 rfl (res_tmp (et g0 rfl)) ?_
                          exact ⟨congrArg Value.bool (show true = wrtN f q by unfold wrtN; simp; omega), U⟩)
                      · skip
                        
                        have hq5 : q ≠ 245 := by have := of_decide_eq_false cB5; omega
                        refine c_region ?_
                        refine l_step (y_moveV (et (gS rfl (gS rfl (gS rfl g0))) rfl)) ?_
                        refine l_step (y_eql (et g0 rfl) rfl) ?_
                        refine l_step (y_assignV (et g0 rfl)) ?_
                        refine l_nil ?_
                        refine hK4 _ _ ?_
                        refine fg4 2 1 0 8 (gS rfl (gS rfl (gS rfl (gS rfl (gS rfl (gS rfl g0)))))) (gS rfl (gS rfl (gS rfl (gS rfl (gS rfl g0))))) (gS rfl (gS rfl (gS rfl (gS rfl g0)))) g0 (fun g => ?_)
                        refine c_cond (et g0 rfl) (fun cB6 => ?_) (fun cB6 => ?_)
                        · skip
                          
                          have hq6 : q = 255 := by have := of_decide_eq_true cB6; omega
                          refine c_seq (fun K26 hK26 => ?_)
                          exact (by
                            refine c_region ?_
                            refine l_step y_assignC ?_
                            refine l_nil ?_
                            refine hK26 _ _ ?_
                            refine fg1 6 g0 (fun g => ?_)
                            refine c_ret ?_
                            refine hQ3 _ _ _ (in_ret ?_)
                            repeat with_reducible refine then_ret ?_
                            refine ret1 rfl (res_tmp (et g0 rfl)) ?_
                            exact ⟨congrArg Value.bool (show true = wrtN f q by unfold wrtN; simp; omega), U⟩)
                        · skip
                          
                          have hq6 : q ≠ 255 := by have := of_decide_eq_false cB6; omega
                          refine c_seq (fun K27 hK27 => ?_)
                          exact (by
                            refine c_region ?_
                            refine l_step (y_moveV (et (gS rfl (gS rfl (gS rfl g0))) rfl)) ?_
                            refine l_step (y_eql (et g0 rfl) rfl) ?_
                            refine l_step (y_assignV (et g0 rfl)) ?_
                            refine l_nil ?_
                            refine hK27 _ _ ?_
                            refine fg3 1 0 25 (gS rfl (gS rfl (gS rfl (gS rfl (gS rfl g0))))) (gS rfl (gS rfl (gS rfl (gS rfl g0)))) g0 (fun g => ?_)
                            refine c_cond (et g0 rfl) (fun cB7 => ?_) (fun cB7 => ?_)
                            · skip
                              
                              have hq7 : q = 241 := by have := of_decide_eq_true cB7; omega
                              refine c_seq (fun K29 hK29 => ?_)
                              exact (by
                                refine c_region ?_
                                refine l_step (y_moveV (et (gS rfl g0) rfl)) ?_
                                refine l_step (y_moveV (et (gS rfl (gS rfl (gS rfl g0))) rfl)) ?_
                                refine l_eff (e_callV cal_264 (aC (et (gS rfl g0) rfl) (aC (et g0 rfl) (aC (v := .int .i64 ((2 : Nat) : Int)) rfl aN))) (m_arg hE hs hp (by first | exact hpf | rfl) _ (by decide))) (fun v30 w30 h30 => ?_)
                                obtain ⟨rfl, u30⟩ := h30
                                replace hE := hE.up u30
                                replace U := U.tr u30
                                refine l_eff (e_alloc zr_65) (fun v31 w31 h31 => ?_)
                                obtain ⟨b31, rfl, n31⟩ := h31
                                have f31 : w.heap.size ≤ b31 := Nat.le_trans U.size n31.fresh
                                replace hE := hE.up n31.up
                                replace U := U.tr n31.up
                                have k31 := n31.blk
                                obtain ⟨zs31, hz31, k31⟩ : ∃ cs : Array Value, cs.size = 4 ∧ Blk w31 b31 cs := ⟨_, rfl, k31⟩
                                refine l_effN (e_store sz_65 (et g0 rfl) (cellsV (et (gS rfl g0) rfl) rfl) rfl (by exact one_uL _) k31 (by (rw [hz31]; exact Nat.le_refl _))) (fun v32 w32 h32 => ?_)
                                obtain ⟨rfl, x32⟩ := h32
                                replace hE := hE.ch x32.ch (by first | omega | (intro b hb; first | (subst hb; exact ⟨hnw _ (by omega), fun hh => by have := hfz.lt hh; omega⟩) | (rcases hb with hb | hb <;> (subst hb; exact ⟨hnw _ (by omega), fun hh => by have := hfz.lt hh; omega⟩))))
                                replace k31 := x32.blk.full (by rw [hz31]; rfl)
                                replace U := U.st x32 f31
                                refine l_nil ?_
                                refine hK29 _ _ ?_
                                refine fg1 7 g0 (fun g => ?_)
                                refine c_seq (fun K33 hK33 => ?_)
                                exact (by
                                  refine c_region ?_
                                  refine l_step (y_loadB agg_65 sz_65 (et g0 rfl) rfl (at1B k31)) ?_
                                  refine l_eff (e_callV cal_78 (aC (et g0 rfl) aN) (isZero_spec _ _ (by first | exact argN_lt hB _ | exact hB.value | assumption | decide | exact Nat.mod_lt _ (by decide)))) (fun v34 w34 h34 => ?_)
                                  obtain ⟨rfl, u34⟩ := h34
                                  replace k31 := k31.up u34
                                  replace hE := hE.up u34
                                  replace U := U.tr u34
                                  refine l_step (y_not (et g0 rfl)) ?_
                                  refine l_step (y_assignV (et g0 rfl)) ?_
                                  refine l_nil ?_
                                  refine hK33 _ _ ?_
                                  refine fg1 6 g0 (fun g => ?_)
                                  refine c_ret ?_
                                  refine hQ3 _ _ _ (in_ret ?_)
                                  repeat with_reducible refine then_ret ?_
                                  refine ret1 rfl (res_tmp (et g0 rfl)) ?_
                                  refine ⟨congrArg Value.bool (show (!decide (argN f.stack 2 = 0)) = wrtN f q from ?_), U⟩
                                  unfold wrtN
                                  subst hq7
                                  simp))
                            · skip
                              
                              have hq7 : q ≠ 241 := by have := of_decide_eq_false cB7; omega
                              refine c_skip ?_
                              refine hQ3 _ _ _ (in_normal ?_)
                              refine hK2 _ _ ?_
                              refine fg0 (fun g => ?_)
                              refine c_seq (fun K35 hK35 => ?_)
                              exact (by
                                refine c_region ?_
                                refine l_step y_assignC ?_
                                refine l_nil ?_
                                refine hK35 _ _ ?_
                                refine c_ret ?_
                                repeat with_reducible refine then_ret ?_
                                refine ret1 rfl (res_tmp (et g0 rfl)) ?_
                                exact ⟨congrArg Value.bool (show false = wrtN f q by unfold wrtN; simp; omega), U⟩))))))))
end Go.Proofs.YgvaawGreat
