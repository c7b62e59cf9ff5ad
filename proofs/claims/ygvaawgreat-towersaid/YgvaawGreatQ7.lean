import Derived.Test.YgvaawGreatQ6
import Derived.Test.YgvaawGreatP8
set_option maxRecDepth 100000
set_option maxHeartbeats 4000000
set_option linter.unusedSimpArgs false
set_option linter.unusedVariables false
namespace Go.Proofs.YgvaawGreat
open Go
/-- what a finished transaction leaves behind -/
def ApE (w : World) (H : Store) (col : Nat → Nat) (w' : World) (bc : Nat) (z : YSt) (v : Value) : Prop := ∃ H' oa la oc lc col' cs' V', v = .agg (rcC 0 z.status (useN z) (.slice oa z.ret.length oc) (.slice la z.now.logs.length lc) (if z.status = 0 then z.made else 0)).toArray ∧ BV H' (.slice oa z.ret.length oc) z.ret ∧ LV P_log 22 H' (.slice la z.now.logs.length lc) z.now.logs ∧ XR w H col w' H' col' bc cs' V' [] ∧ LO H' cs' bc (qOf (finY z) (some 0) (some 0)) ∧ VA V' (absY (finY z).now) [] (slF (finY z).now.accts) ∧ EI V' (finY z)
theorem fin_va {V : EV} {z : YSt} {sv : List AW} {og : Nat → Nat → Nat} (ho : VOk V) (h : VA V (absY { z.now with accts := payA2 z }) sv og) : VA (endV V) (absY (finY z).now) [] (slF (finY z).now.accts) := by
  have h9 := end_va ho h
  rw [← fin_abs] at h9
  exact h9
theorem fin_ei {V V' : EV} {z : YSt} {sn : List Nat} {sv : List AW} {c : Nat} (p : PX V z sn sv c) (h1 : V'.accts.length ≤ V.accts.length) (h2 : V'.slots.length ≤ V.slots.length) : EI (endV V') (finY z) := by
  have q1 := p.pot.a
  have q2 := p.pot.s
  refine ⟨?_, ?_, rfl, rfl, rfl⟩
  · show 2600 * (V'.accts.map endA).length ≤ 2600 * (8 + 21 * z.applied) + 1048576 * z.applied
    rw [List.length_map]
    omega
  · show 2100 * (V'.slots.map (endS V')).length ≤ 2100 * (128 + 64 * z.applied) + 1048576 * z.applied
    rw [List.length_map]
    omega
theorem XO.base {w0 w1 w : World} {H0 H1 : Store} {col0 col1 : Nat → Nat} {bc : Nat} {s : YSt} {c : Nat} (e : ET w0 H0 col0 w1 H1 col1) (h : XO w1 H1 col1 w bc s c) : XO w0 H0 col0 w bc s c := by
  obtain ⟨H, col, cs, V, sn, sv, h⟩ := h
  exact ⟨H, col, cs, V, sn, sv, h.ex, e.trans h.et⟩
theorem m_stepE {w : World} {H : Store} {col : Nat → Nat} {bc : Nat} {cs : Array Value} {V : EV} {s : YSt} {sn : List Nat} {sv : List AW} {ms : List (List Nat)} {c : Nat} (hE : EX w H col bc cs V s sn sv ms c) (hp2 : s.phase = 2) :
    Ret 36 [.pointer (some ⟨bc, 0, none⟩)] w (fun v w' => v = .bool false ∧ Up w w') := by
  have hnw := hE.vl.new
  have hfz := hE.vl.fz
  refine enter (n := 41) Hvaa.func36 rfl rfl (Nat.le_of_ble_eq_true rfl) ?_
  have U := Up.refl w
  refine c_seq (fun K1 hK1 => ?_)
  exact (by
    refine c_region ?_
    refine l_step y_assignC ?_
    refine l_nil ?_
    refine hK1 _ _ ?_
    refine fg1 0 (gS rfl g0) (fun g => ?_)
    refine c_seq (fun K2 hK2 => ?_)
    refine c_seq (fun K3 hK3 => ?_)
    exact (by
      refine c_region ?_
      refine l_step (y_moveV (et g0 rfl)) ?_
      refine l_step (y_nil (et g0 rfl)) ?_
      refine l_step (y_fld fld_75_9 (et g0 rfl)) ?_
      refine l_step (y_load1 one_5 (et g0 rfl) (at1 (hE.vl.c1 hE.lx.phs rfl))) ?_
      refine l_step (y_neq (et g0 rfl) rfl) ?_
      refine l_step (y_moveV (et g0 rfl)) ?_
      refine gsplitL (i := 13) g0 (fun q4 => ?_) (fun q4 => ?_)
      · skip
        refine l_gskip (j := 5) (t := 13) (by exact rfl) (by exact rfl) (et g0 rfl) (by decide) (by decide) ?_
        refine l_gskip (j := 5) (t := 13) (by exact rfl) (by exact rfl) (et (gS rfl g0) rfl) (by decide) (by decide) ?_
        refine l_gskip (j := 5) (t := 13) (by exact rfl) (by exact rfl) (et (gS rfl (gS rfl g0)) rfl) (by decide) (by decide) ?_
        refine l_gskip (j := 5) (t := 13) (by exact rfl) (by exact rfl) (et (gS rfl (gS rfl (gS rfl g0))) rfl) (by decide) (by decide) ?_
        refine l_gskip (j := 5) (t := 13) (by exact rfl) (by exact rfl) (et (gS rfl (gS rfl (gS rfl (gS rfl g0)))) rfl) (by decide) (by decide) ?_
        refine l_step (y_pickT (et (gS rfl (gS rfl (gS rfl (gS rfl (gS rfl g0))))) rfl) rfl) ?_
        refine l_nil ?_
        refine hK3 _ _ ?_
        refine fg2 0 19 (gS rfl (gS rfl (gS rfl (gS rfl (gS rfl (gS rfl (gS rfl (gS rfl (gS rfl (gS rfl (gS rfl (gS rfl (gS rfl g0))))))))))))) g0 (fun g => ?_)
        refine c_true (et g0 rfl) rfl ?_
        refine c_seq (fun K6 hK6 => ?_)
        exact (by
          refine c_region ?_
          refine l_step y_assignC ?_
          refine l_nil ?_
          refine hK6 _ _ ?_
          refine fg1 2 g0 (fun g => ?_)
          refine c_ret ?_
          repeat with_reducible refine then_ret ?_
          refine ret1 rfl (res_tmp (et g0 rfl)) ?_
          exact ⟨rfl, U⟩)
      · skip
        exact absurd (of_decide_eq_false q4) (by rw [hp2]; decide)))
theorem x_step15 {w : World} {bc : Nat} {R : Value → World → Prop} (h : Ret 36 [.pointer (some ⟨bc, 0, none⟩)] w R) (hch : ∀ v w', R v w' → Ch (fun _ => True) w w') :
    Ret 15 [.pointer (some ⟨bc, 0, none⟩)] w (fun v w' => R v w') := by
  have h2 := h.mono (fun v w'' hv => (⟨trivial, hv⟩ : True ∧ R v w''))
  refine enter (n := 7) Hvaa.func15 rfl rfl (Nat.le_of_ble_eq_true rfl) ?_
  have U : Ch (fun _ => True) w w := Ch.refl _ w
  refine c_seq (fun K1 hK1 => ?_)
  exact (by
    refine c_region ?_
    refine l_step y_assignC ?_
    refine l_nil ?_
    refine hK1 _ _ ?_
    refine fg1 0 (gS rfl g0) (fun g => ?_)
    refine c_seq (fun K2 hK2 => ?_)
    exact (by
      refine c_region ?_
      refine l_step (y_moveV (et g0 rfl)) ?_
      refine l_step (y_nil (et g0 rfl)) ?_
      refine l_step (y_fld fld_91_0 (et g0 rfl)) ?_
      refine l_eff (e_callV cal_36 (aC (et g0 rfl) aN) h2) (fun v3 w3 h3 => ?_)
      obtain ⟨_, hr3⟩ := h3
      replace U := U.cc (hch _ _ hr3) (by intro b hb; exact .inl trivial)
      refine l_step (y_assignV (et g0 rfl)) ?_
      refine l_nil ?_
      refine hK2 _ _ ?_
      refine fg1 2 g0 (fun g => ?_)
      refine c_ret ?_
      repeat with_reducible refine then_ret ?_
      refine ret1 rfl (res_tmp (et g0 rfl)) ?_
      exact hr3))
theorem x_open14 {w : World} {bc : Nat} {txc : List Value} (htl : txc.length = 174) {R : World → Value → World → Prop} (h : ∀ w1, Up w w1 → Ret 35 [.pointer (some ⟨bc, 0, none⟩), .agg txc.toArray] w1 (R w1)) (hch : ∀ w1 v w', Up w w1 → R w1 v w' → Ch (fun b => b < w.heap.size ∨ w1.heap.size ≤ b) w1 w') :
    Ret 14 [.pointer (some ⟨bc, 0, none⟩), .agg txc.toArray] w (fun v w' => ∃ w1, Up w w1 ∧ R w1 v w') := by
  have h2 := fun w1 u => (h w1 u).mono (fun v w'' hv => (⟨trivial, hv⟩ : True ∧ R w1 v w''))
  refine enter (n := 10) Hvaa.func14 rfl rfl (Nat.le_of_ble_eq_true rfl) ?_
  have U : Ch (fun _ => True) w w := Ch.refl _ w
  refine c_seq (fun K1 hK1 => ?_)
  exact (by
    refine c_region ?_
    refine l_eff (e_boxV (et (gS rfl g0) rfl)) (fun v2 w2 h2 => ?_)
    obtain ⟨b2, rfl, n2⟩ := h2
    have f2 : w.heap.size ≤ b2 := Nat.le_trans U.size n2.fresh
    replace U := U.tr n2.up
    have k2 := n2.blk
    replace k2 : Blk w2 b2 txc.toArray := k2
    refine l_step y_assignC ?_
    refine l_nil ?_
    refine hK1 _ _ ?_
    refine fg2 0 3 (gS rfl (gS rfl g0)) (gS rfl g0) (fun g => ?_)
    refine c_seq (fun K3 hK3 => ?_)
    exact (by
      refine c_draw (Ch (fun k => k ≠ b2)) 6 [(0, true), (1, true), (2, true), (3, true), (4, false), (5, true)] (by kernel_rfl) (fun w4 hu => ⟨Ch.refl _ _, ?_⟩)
      replace k2 := k2.up hu
      replace U := U.tr hu
      have SU : (Ch (fun k => k ≠ b2)) w4 w4 := Ch.refl _ _
      refine p_step (by exact rfl) (y_moveV (et (gS rfl g0) rfl)) ?_
      refine p_step (by exact rfl) (y_nil (et g0 rfl)) ?_
      refine p_step (by exact rfl) (y_fld fld_91_0 (et g0 rfl)) ?_
      refine p_step (by exact rfl) (y_loadB agg_41 sz_41 (et (gS rfl (gS rfl (gS rfl g0))) rfl) (by rw [List.size_toArray]; exact htl) (atCB k2 (by omega))) ?_
      have u9 := n2.up.tr hu
      have hlt9 := k2.lt
      refine p_eff (by exact rfl) (e_callV cal_35 (aC (et (gS rfl g0) rfl) (aC (et g0 rfl) aN)) (h2 _ u9)) (fun v5 w5 h5 => ?_)
      obtain ⟨_, hr5⟩ := h5
      replace k2 := k2.ch (hch _ _ _ u9 hr5) (by omega)
      replace U := U.cc (hch _ _ _ u9 hr5) (by intro b hb; exact .inl trivial)
      replace SU := SU.cc (hch _ _ _ u9 hr5) (by intro b hb; first | exact .inl hb | exact hb.elim | omega)
      refine ⟨.inr SU, ?_⟩
      refine p_step (by exact rfl) (y_assignV (et g0 rfl)) ?_
      refine p_nil ?_
      refine hK3 _ _ ?_
      refine fg1 4 g0 (fun g => ?_)
      refine c_ret ?_
      repeat with_reducible refine then_ret ?_
      refine ret1 rfl (res_tmp (et g0 rfl)) ?_
      exact ⟨_, u9, hr5⟩))
theorem e_finish {w : World} {H : Store} {col : Nat → Nat} {bc : Nat} {cs : Array Value} {V : EV} {z : YSt} {sn : List Nat} {sv : List AW} {c : Nat} (hE : EX w H col bc cs V z sn sv [] c) (hie : IE z) :
    Ret 16 [.pointer (some ⟨bc, 0, none⟩)] w (fun v w' => ApE w H col w' bc z v) := by
  have hX := XR.refl hE.vl hE.ok hE.mx
  have hL := hE.lx.lo hE.vl.size hie.fr hie.ph
  have hlf := hE.lx.lft hie.ph
  have hva := hE.px.va
  have hpx := hE.px
  have hY := py_of hie hE
  have hnw := hX.vl.new
  have hfz := hX.vl.fz
  have hcC := hX.vl.colC
  refine enter (n := 28) Hvaa.func16 rfl rfl (Nat.le_of_ble_eq_true rfl) ?_
  have U : Ch (fun _ => True) w w := Ch.refl _ w
  refine c_seq (fun K1 hK1 => ?_)
  exact (by
    refine c_region ?_
    have hnwa := hX.vl.new
    have hfza := hX.vl.fz
    refine l_eff (e_alloc zr_44) (fun v2 w2 h2 => ?_)
    obtain ⟨b2, rfl, n2⟩ := h2
    have f2 : w.heap.size ≤ b2 := Nat.le_trans U.size n2.fresh
    replace hX := hX.up n2.up
    replace U := U.tr n2.up
    have k2 := n2.blk
    obtain ⟨zs2, hz2, k2⟩ : ∃ cs : Array Value, cs.size = 25 ∧ Blk w2 b2 cs := ⟨_, rfl, k2⟩
    have nc2 := hnwa b2 n2.fresh
    have nh2 : ¬ Store.has _ b2 := fun hh => by have h9 := hfza.lt hh; have h8 := n2.fresh; omega
    refine l_nil ?_
    refine hK1 _ _ ?_
    refine c_seq (fun K3 hK3 => ?_)
    exact (by
      refine c_region ?_
      refine l_step (y_moveV (et (gS rfl g0) rfl)) ?_
      refine l_step (y_nil (et g0 rfl)) ?_
      refine l_step (y_fld fld_91_0 (et g0 rfl)) ?_
      refine l_eff (e_callV cal_37 (aC (et g0 rfl) aN) (e_pay (XR.refl hX.vl hX.ok hX.mx) hX.vl.fz hL hlf hva hY)) (fun v4 w4 h4 => ?_)
      obtain ⟨H4, oa9, la9, oc9, lc9, cl4, cs4, V4, rfl, bo9, bl9, y4, lo9, va9, na9, ns9⟩ := h4
      have nc2 := (y4.et.col b2 k2.lt).trans nc2
      have nh2 := y4.et.go.nb nh2 k2.lt
      replace k2 := k2.ch y4.et.go.ch (by intro hm; (have e0 := hm); omega)
      replace hX := hX.trans y4
      replace U := U.cc y4.et.go.ch (by intro b hb; exact .inl trivial)
      have hcC := hX.vl.colC
      have hnwb := hX.vl.new
      have hfzb := hX.vl.fz
      refine l_eff (e_alloc zr_44) (fun v5 w5 h5 => ?_)
      obtain ⟨b5, rfl, n5⟩ := h5
      have d2_5 : b2 < b5 := Nat.lt_of_lt_of_le k2.lt n5.fresh
      have f5 : w.heap.size ≤ b5 := Nat.le_trans U.size n5.fresh
      replace k2 := k2.up n5.up
      replace hX := hX.up n5.up
      replace U := U.tr n5.up
      have k5 := n5.blk
      obtain ⟨zs5, hz5, k5⟩ : ∃ cs : Array Value, cs.size = 25 ∧ Blk w5 b5 cs := ⟨_, rfl, k5⟩
      have nc5 := hnwb b5 n5.fresh
      have nh5 : ¬ Store.has _ b5 := fun hh => by have h9 := hfzb.lt hh; have h8 := n5.fresh; omega
      refine l_effN (e_store sz_44 (et g0 rfl) (cellsV (et (gS rfl g0) rfl) rfl) rcC_len (by exact rc_one rfl rfl) k5 (by (rw [hz5]; exact Nat.le_refl _))) (fun v6 w6 h6 => ?_)
      obtain ⟨rfl, x6⟩ := h6
      replace k2 := k2.ch x6.ch (by omega)
      replace hX := hX.ch x6.ch (by first | omega | (intro b hb; first | (subst hb; first | exact ⟨by omega, fun hh => by have := hfz.lt hh; omega, by omega⟩ | exact ⟨by omega, by assumption, by omega⟩) | (rcases hb with hb | hb <;> (subst hb; first | exact ⟨by omega, fun hh => by have := hfz.lt hh; omega, by omega⟩ | exact ⟨by omega, by assumption, by omega⟩))))
      replace k5 := x6.blk.full (by rw [rcC_len, hz5])
      replace U := U.st x6 (.inr f5)
      refine l_nil ?_
      refine hK3 _ _ ?_
      refine fg3 0 2 3 (gS rfl (gS rfl (gS rfl (gS rfl (gS rfl (gS rfl g0)))))) (gS rfl (gS rfl (gS rfl (gS rfl (gS rfl g0))))) g0 (fun g => ?_)
      refine c_seq (fun K7 hK7 => ?_)
      refine c_seq (fun K8 hK8 => ?_)
      exact (by
        refine c_region ?_
        refine l_step (y_fld fld_44_0 (et g0 rfl)) ?_
        refine l_step (y_load1 one_5 (et g0 rfl) (at1 (k5.cell (show _ = some (Value.int .u8 (0 : Nat)) from rfl)))) ?_
        refine l_step (y_eql (et g0 rfl) rfl) ?_
        refine l_nil ?_
        refine hK8 _ _ ?_
        refine fg4 0 2 3 10 (gS rfl (gS rfl (gS rfl (gS rfl (gS rfl g0))))) (gS rfl (gS rfl (gS rfl (gS rfl g0)))) (gS rfl (gS rfl (gS rfl g0))) g0 (fun g => ?_)
        refine c_true (et g0 rfl) (by rfl) ?_
        refine c_seq (fun K10 hK10 => ?_)
        refine c_seq (fun K11 hK11 => ?_)
        exact (by
          refine c_region ?_
          refine l_step (y_moveV (et (gS rfl (gS rfl (gS rfl g0))) rfl)) ?_
          refine l_step (y_nil (et g0 rfl)) ?_
          refine l_step (y_fld fld_91_2 (et g0 rfl)) ?_
          refine l_step (y_fld fld_89_3 (et g0 rfl)) ?_
          refine l_step (y_load1 one_4 (et g0 rfl) (at1 (hX.vl.c1 hX.vl.tb rfl))) ?_
          refine l_nil ?_
          refine hK11 _ _ ?_
          refine fg4 0 2 3 15 (gS rfl (gS rfl (gS rfl (gS rfl (gS rfl (gS rfl (gS rfl (gS rfl g0)))))))) (gS rfl (gS rfl (gS rfl (gS rfl (gS rfl (gS rfl (gS rfl g0))))))) (gS rfl (gS rfl (gS rfl (gS rfl (gS rfl (gS rfl g0)))))) g0 (fun g => ?_)
          refine c_false (et g0 rfl) (by rfl) ?_
          refine c_skip ?_
          refine hK10 _ _ ?_
          refine fg3 0 2 3 (gS rfl (gS rfl (gS rfl g0))) (gS rfl (gS rfl g0)) (gS rfl g0) (fun g => ?_)
          exact (by
            refine c_region ?_
            refine l_step (y_moveV (et (gS rfl (gS rfl g0)) rfl)) ?_
            refine l_step (y_nil (et g0 rfl)) ?_
            refine l_step (y_fld fld_91_0 (et g0 rfl)) ?_
            have hok9 := hX.ok
            refine l_eff (e_callV cal_39 (aC (et g0 rfl) aN) (e_rest (XR.refl hX.vl hX.ok hX.mx) lo9)) (fun v13 w13 h13 => ?_)
            obtain ⟨rfl, cl13, cs13, y13, lo8⟩ := h13
            have nc2 := (y13.et.col b2 k2.lt).trans nc2
            have nh2 := y13.et.go.nb nh2 k2.lt
            have nc5 := (y13.et.col b5 k5.lt).trans nc5
            have nh5 := y13.et.go.nb nh5 k5.lt
            replace k2 := k2.ch y13.et.go.ch (by intro hm; (have e0 := hm); omega)
            replace k5 := k5.ch y13.et.go.ch (by intro hm; (have e0 := hm); omega)
            replace hX := hX.trans y13
            replace U := U.cc y13.et.go.ch (by intro b hb; exact .inl trivial)
            have hcC := hX.vl.colC
            refine l_nil ?_
            refine hK7 _ _ ?_
            refine fg2 2 3 (gS rfl (gS rfl (gS rfl (gS rfl (gS rfl g0))))) (gS rfl (gS rfl (gS rfl (gS rfl g0)))) (fun g => ?_)
            refine c_seq (fun K14 hK14 => ?_)
            exact (by
              refine c_region ?_
              refine l_step (y_loadB agg_44 sz_44 (et g0 rfl) (by rw [List.size_toArray, rcC_len]) (at1B k5)) ?_
              refine l_effN (e_store sz_44 (et (gS rfl (gS rfl g0)) rfl) (cellsV (et g0 rfl) rfl) rcC_len (by exact rc_one rfl rfl) k2 (by (rw [hz2]; exact Nat.le_refl _))) (fun v15 w15 h15 => ?_)
              obtain ⟨rfl, x15⟩ := h15
              replace k5 := k5.ch x15.ch (by omega)
              replace hX := hX.ch x15.ch (by first | omega | (intro b hb; first | (subst hb; first | exact ⟨by omega, fun hh => by have := hfz.lt hh; omega, by omega⟩ | exact ⟨by omega, by assumption, by omega⟩) | (rcases hb with hb | hb <;> (subst hb; first | exact ⟨by omega, fun hh => by have := hfz.lt hh; omega, by omega⟩ | exact ⟨by omega, by assumption, by omega⟩))))
              replace k2 := x15.blk.full (by rw [rcC_len, hz2])
              replace U := U.st x15 (.inr f2)
              refine l_nil ?_
              refine hK14 _ _ ?_
              refine fg1 2 (gS rfl (gS rfl g0)) (fun g => ?_)
              refine c_ret ?_
              repeat with_reducible refine then_ret ?_
              refine ret1 rfl (res_blk agg_44 sz_44 (et g0 rfl) (by rw [List.size_toArray, rcC_len]) k2) ?_
              exact ⟨_, oa9, la9, oc9, lc9, _, _, _, rfl, bo9, bl9, hX, lo8, fin_va hok9 va9, fin_ei hpx na9 ns9⟩))))))
end Go.Proofs.YgvaawGreat
