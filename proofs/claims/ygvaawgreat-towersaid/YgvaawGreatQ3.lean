import Derived.Test.YgvaawGreatW14
import Derived.Test.YgvaawGreatX6
set_option maxRecDepth 100000
set_option maxHeartbeats 4000000
set_option linter.unusedSimpArgs false
set_option linter.unusedVariables false
namespace Go.Proofs.YgvaawGreat
open Go
section
variable {w : World} {H : Store} {col : Nat → Nat} {bc : Nat} {cs : Array Value} {V : EV}
theorem sub_ok (a b : Nat) (w : World) (ha : a < W256) (h : b ≤ a) : Ret 98 [wV a, wV b] w (fun v w' => v = wV (a - b) ∧ Up w w') := by
  have h1 := sub_spec a b w ha (by omega)
  rw [sub_W h ha] at h1
  exact h1
theorem add_ok (a b : Nat) (w : World) (h : a + b < W256) : Ret 114 [wV a, wV b] w (fun v w' => v = wV (a + b) ∧ Up w w') := by
  have h1 := add_spec a b w (by omega) (by omega)
  rw [Nat.mod_eq_of_lt h] at h1
  exact h1
theorem mul_ok (a b : Nat) (w : World) (ha : a < W256) (hb : b < W256) (h : a * b < W256) : Ret 95 [wV a, wV b] w (fun v w' => v = wV (a * b) ∧ Up w w') := by
  have h1 := mul_spec a b w ha hb
  rw [Nat.mod_eq_of_lt h] at h1
  exact h1
theorem VL.balt (h : VL w H col bc cs V) (ho : VOk V) (a : Nat) : (absV V).bal a < W256 := by
  show (ax V a).bal < W256
  by_cases h9 : hasA V a
  · obtain ⟨x, h1, h2⟩ := hasA_ix h9
    obtain ⟨b, c', cap, vc, hA⟩ := h.acct h1
    rw [ax_eq ho h1 h2]
    exact hA.ok.bal
  · rw [ax_no h9]
    show 0 < W256
    decide
end
theorem e_spacious {w : World} {H : Store} {col : Nat → Nat} {bc : Nat} {cs : Array Value} {V : EV} (hV : VL w H col bc cs V) (ho : VOk V) {q : LQ} (hL : LO H cs bc q) (hmt : cs[10]? = some (.int .u8 (0 : Nat))) (h1 : V.accts.length ≤ 2539) (h2 : V.slots.length ≤ 2496) (h3 : V.journal.length ≤ 65445) (h4 : V.marks.length < 16384) :
    Ret 91 [.pointer (some ⟨bc, 0, none⟩)] w (fun v w' => v = .bool true ∧ Up w w') := by
  have hnw := hV.new
  have hfz := hV.fz
  refine enter (n := 50) Hvaa.func91 rfl rfl (Nat.le_of_ble_eq_true rfl) ?_
  have U := Up.refl w
  refine c_seq (fun K1 hK1 => ?_)
  exact (by
    refine c_region ?_
    refine l_step y_assignC ?_
    refine l_nil ?_
    refine hK1 _ _ ?_
    refine fg1 0 (gS rfl g0) (fun g => ?_)
    refine c_seq (fun K2 hK2 => ?_)
    exact (by
      refine c_region ?_
      refine l_step (y_moveV (et g0 rfl)) ?_
      refine l_step (y_nil (et g0 rfl)) ?_
      refine l_step (y_fld fld_75_0 (et g0 rfl)) ?_
      refine l_step (y_load1 one_59 (et g0 rfl) (at1 (hV.c1 hL.pS rfl))) ?_
      refine l_eff (e_callV cal_92 (aC (et g0 rfl) aN) (v_sizes hV ho)) (fun v3 w3 h3 => ?_)
      obtain ⟨rfl, u3⟩ := h3
      replace hV := hV.up u3
      replace U := U.tr u3
      refine l_step (y_moveV (et g0 rfl)) ?_
      refine l_step (y_ext (et g0 rfl) rfl) ?_
      refine l_step (y_ext (et (gS rfl g0) rfl) rfl) ?_
      refine l_step (y_ext (et (gS rfl (gS rfl g0)) rfl) rfl) ?_
      refine l_step (y_ext (et (gS rfl (gS rfl (gS rfl g0))) rfl) rfl) ?_
      refine l_step (y_assignV (et (gS rfl (gS rfl (gS rfl g0))) rfl)) ?_
      refine l_step (y_assignV (et (gS rfl (gS rfl (gS rfl g0))) rfl)) ?_
      refine l_step (y_assignV (et (gS rfl (gS rfl (gS rfl g0))) rfl)) ?_
      refine l_step (y_assignV (et (gS rfl (gS rfl (gS rfl g0))) rfl)) ?_
      refine l_nil ?_
      refine hK2 _ _ ?_
      refine fg5 0 3 4 5 6 (gS rfl (gS rfl (gS rfl (gS rfl (gS rfl (gS rfl (gS rfl (gS rfl (gS rfl (gS rfl (gS rfl (gS rfl (gS rfl (gS rfl g0)))))))))))))) (gS rfl (gS rfl (gS rfl g0))) (gS rfl (gS rfl g0)) (gS rfl g0) g0 (fun g => ?_)
      refine c_seq (fun K4 hK4 => ?_)
      exact (by
        refine c_region ?_
        refine l_step (y_moveV (et (gS rfl (gS rfl (gS rfl g0))) rfl)) ?_
        refine l_step (y_leq (et g0 rfl) rfl) ?_
        refine l_step (y_moveV (et g0 rfl)) ?_
        refine gsplitL (i := 19) g0 (fun q5 => ?_) (fun q5 => ?_)
        · skip
          refine l_gstep (j := 2) (t := 19) (by exact rfl) (by exact rfl) (et g0 rfl) (by decide) (y_moveV (et (gS rfl (gS rfl (gS rfl (gS rfl (gS rfl (gS rfl g0)))))) rfl)) ?_
          refine l_gstep (j := 2) (t := 19) (by exact rfl) (by exact rfl) (et (gS rfl g0) rfl) (by decide) (y_leq (et g0 rfl) rfl) ?_
          refine l_step (y_pickT (et (gS rfl (gS rfl g0)) rfl) (et g0 rfl)) ?_
          refine l_step (y_moveV (et g0 rfl)) ?_
          refine gsplitL (i := 23) g0 (fun q6 => ?_) (fun q6 => ?_)
          · skip
            refine l_gstep (j := 6) (t := 23) (by exact rfl) (by exact rfl) (et g0 rfl) (by decide) (y_moveV (et (gS rfl (gS rfl (gS rfl (gS rfl (gS rfl (gS rfl (gS rfl (gS rfl (gS rfl (gS rfl g0)))))))))) rfl)) ?_
            refine l_gstep (j := 6) (t := 23) (by exact rfl) (by exact rfl) (et (gS rfl g0) rfl) (by decide) (y_leq (et g0 rfl) rfl) ?_
            refine l_step (y_pickT (et (gS rfl (gS rfl g0)) rfl) (et g0 rfl)) ?_
            refine l_step (y_moveV (et g0 rfl)) ?_
            refine gsplitL (i := 27) g0 (fun q7 => ?_) (fun q7 => ?_)
            · skip
              refine l_gstep (j := 10) (t := 27) (by exact rfl) (by exact rfl) (et g0 rfl) (by decide) (y_moveV (et (gS rfl (gS rfl (gS rfl (gS rfl (gS rfl (gS rfl (gS rfl (gS rfl (gS rfl (gS rfl (gS rfl (gS rfl (gS rfl (gS rfl g0)))))))))))))) rfl)) ?_
              refine l_gstep (j := 10) (t := 27) (by exact rfl) (by exact rfl) (et (gS rfl g0) rfl) (by decide) (y_geq (et g0 rfl) rfl) ?_
              refine l_step (y_pickT (et (gS rfl (gS rfl g0)) rfl) (et g0 rfl)) ?_
              refine l_step (y_moveV (et g0 rfl)) ?_
              refine gsplitL (i := 31) g0 (fun q8 => ?_) (fun q8 => ?_)
              · skip
                refine l_gstep (j := 14) (t := 31) (by exact rfl) (by exact rfl) (et g0 rfl) (by decide) (y_moveV (et (gS rfl (gS rfl (gS rfl (gS rfl (gS rfl (gS rfl (gS rfl (gS rfl (gS rfl (gS rfl (gS rfl (gS rfl (gS rfl (gS rfl (gS rfl (gS rfl (gS rfl (gS rfl (gS rfl g0))))))))))))))))))) rfl)) ?_
                refine l_gstep (j := 14) (t := 31) (by exact rfl) (by exact rfl) (et (gS rfl g0) rfl) (by decide) (y_lss (et g0 rfl) rfl) ?_
                refine l_step (y_pickT (et (gS rfl (gS rfl g0)) rfl) (et g0 rfl)) ?_
                refine l_step (y_moveV (et g0 rfl)) ?_
                refine gsplitL (i := 35) g0 (fun q9 => ?_) (fun q9 => ?_)
                · skip
                  refine l_gstep (j := 18) (t := 35) (by exact rfl) (by exact rfl) (et g0 rfl) (by decide) (y_moveV (et (gS rfl (gS rfl (gS rfl (gS rfl (gS rfl (gS rfl (gS rfl (gS rfl (gS rfl (gS rfl (gS rfl (gS rfl (gS rfl (gS rfl (gS rfl (gS rfl (gS rfl (gS rfl (gS rfl (gS rfl (gS rfl (gS rfl (gS rfl (gS rfl (gS rfl (gS rfl (gS rfl (gS rfl g0)))))))))))))))))))))))))))) rfl)) ?_
                  refine l_gstep (j := 18) (t := 35) (by exact rfl) (by exact rfl) (et (gS rfl g0) rfl) (by decide) (y_nil (et g0 rfl)) ?_
                  refine l_gstep (j := 18) (t := 35) (by exact rfl) (by exact rfl) (et (gS rfl (gS rfl g0)) rfl) (by decide) (y_fld fld_75_1 (et g0 rfl)) ?_
                  refine l_gstep (j := 18) (t := 35) (by exact rfl) (by exact rfl) (et (gS rfl (gS rfl (gS rfl g0))) rfl) (by decide) (y_fld fld_63_2 (et g0 rfl)) ?_
                  refine l_gstep (j := 18) (t := 35) (by exact rfl) (by exact rfl) (et (gS rfl (gS rfl (gS rfl (gS rfl g0)))) rfl) (by decide) (y_load1 one_5 (et g0 rfl) (at1 (hV.c1 hmt rfl))) ?_
                  refine l_gstep (j := 18) (t := 35) (by exact rfl) (by exact rfl) (et (gS rfl (gS rfl (gS rfl (gS rfl (gS rfl g0))))) rfl) (by decide) (y_eql (et g0 rfl) rfl) ?_
                  refine l_step (y_pickT (et (gS rfl (gS rfl (gS rfl (gS rfl (gS rfl (gS rfl g0)))))) rfl) (et g0 rfl)) ?_
                  refine l_step (y_moveV (et g0 rfl)) ?_
                  refine gsplitL (i := 43) g0 (fun q10 => ?_) (fun q10 => ?_)
                  · skip
                    refine l_gstep (j := 26) (t := 43) (by exact rfl) (by exact rfl) (et g0 rfl) (by decide) (y_moveV (et (gS rfl (gS rfl (gS rfl (gS rfl (gS rfl (gS rfl (gS rfl (gS rfl (gS rfl (gS rfl (gS rfl (gS rfl (gS rfl (gS rfl (gS rfl (gS rfl (gS rfl (gS rfl (gS rfl (gS rfl (gS rfl (gS rfl (gS rfl (gS rfl (gS rfl (gS rfl (gS rfl (gS rfl (gS rfl (gS rfl (gS rfl (gS rfl (gS rfl (gS rfl (gS rfl (gS rfl (gS rfl g0))))))))))))))))))))))))))))))))))))) rfl)) ?_
                    refine l_gstep (j := 26) (t := 43) (by exact rfl) (by exact rfl) (et (gS rfl g0) rfl) (by decide) (y_nil (et g0 rfl)) ?_
                    refine l_gstep (j := 26) (t := 43) (by exact rfl) (by exact rfl) (et (gS rfl (gS rfl g0)) rfl) (by decide) (y_fld fld_75_4 (et g0 rfl)) ?_
                    refine l_gstep (j := 26) (t := 43) (by exact rfl) (by exact rfl) (et (gS rfl (gS rfl (gS rfl g0))) rfl) (by decide) (y_load1 one_73 (et g0 rfl) (at1 (hV.c1 hL.top rfl))) ?_
                    refine l_gstep (j := 26) (t := 43) (by exact rfl) (by exact rfl) (et (gS rfl (gS rfl (gS rfl (gS rfl g0)))) rfl) (by decide) (y_eql (et g0 rfl) rfl) ?_
                    refine l_step (y_pickT (et (gS rfl (gS rfl (gS rfl (gS rfl (gS rfl g0))))) rfl) (et g0 rfl)) ?_
                    refine l_step (y_assignV (et g0 rfl)) ?_
                    refine l_nil ?_
                    refine hK4 _ _ ?_
                    refine fg1 2 g0 (fun g => ?_)
                    refine c_ret ?_
                    repeat with_reducible refine then_ret ?_
                    refine ret1 rfl (res_tmp (et g0 rfl)) ?_
                    exact ⟨by congr 1, U⟩
                  · skip
                    exact absurd (of_decide_eq_false q10) (by omega)
                · skip
                  exact absurd (of_decide_eq_false q9) (by omega)
              · skip
                exact absurd (of_decide_eq_false q8) (by omega)
            · skip
              exact absurd (of_decide_eq_false q7) (by omega)
          · skip
            exact absurd (of_decide_eq_false q6) (by omega)
        · skip
          exact absurd (of_decide_eq_false q5) (by omega))))
theorem e_verdict {w : World} {H : Store} {col : Nat → Nat} {bc : Nat} {cs : Array Value} {V : EV} (hV : VL w H col bc cs V) (ho : VOk V) (hF : Fz w H) {s : YSt} {tg hd : Option Nat} (hL : LO H cs bc (qOf s tg hd)) {sv : List AW} {og : Nat → Nat → Nat} (hva : VA V (absY s.now) sv og) (hph : s.phase = 0) {txc : List Value} {T : YTx} (ht : TC H txc.toArray T) (htl : txc.length = 174) :
    Ret 90 [.pointer (some ⟨bc, 0, none⟩), .agg txc.toArray] w (fun v w' => ∃ H' pr, v = .tuple #[.int .u8 (verdN s T : Nat), wV pr] ∧ (verdN s T = 0 → pr = priceN s T) ∧ Go No w H w' H') := by
  have hnw := hV.new
  have hfz := hV.fz
  have hphs : cs[2404]? = some (.int .u8 (s.phase : Nat)) := hL.phs
  have happ : cs[2406]? = some (.int .u8 (s.applied : Nat)) := hL.app
  have henv : EC H cs 2260 s.env := hL.env
  obtain ⟨eha, ehc, eCo, eNu, eRa, eCh, eBf, eHs, eHv⟩ := henv.ex
  have eo := henv.ok
  have eo1 := eo.baseFee
  obtain ⟨tda, tdc, taa, tac, rT1, rT2, rT3, rT4, rT5, rT6, rT7, rT8, rT9, hTd, hTa⟩ := ht.ex
  have tok := ht.ok
  have to1 := tok.data
  have to2 := tok.access
  have hno : (absV V).nonce T.frm = (vdA s T).nonce := by rw [hva.abs]; rfl
  have hco : (absV V).code T.frm = (vdA s T).code := by rw [hva.abs]; rfl
  have hba : (absV V).bal T.frm = (vdA s T).bal := by rw [hva.abs]; rfl
  have hbl : (vdA s T).bal < W256 := by rw [← hba]; exact hV.balt ho _
  have hM := feeM_lt tok
  have hTi := feeT_lt tok
  have hgW : T.gas < W256 := Nat.lt_trans tok.gas (by decide)
  refine enter (n := 169) Hvaa.func90 rfl rfl (Nat.le_of_ble_eq_true rfl) ?_
  have U := Up.refl w
  have G : Go (No) w H w H := Go.refl hF
  have hL0 : Le H H := Le.refl H
  refine c_seq (fun K1 hK1 => ?_)
  exact (by
    refine c_region ?_
    refine l_eff (e_boxV (et (gS rfl g0) rfl)) (fun v2 w2 h2 => ?_)
    obtain ⟨b2, rfl, n2⟩ := h2
    have f2 : w.heap.size ≤ b2 := Nat.le_trans U.size n2.fresh
    have nb2 := hF.nb n2.fresh
    replace G := G.tr (Go.ofUp hF n2.up)
    replace hF := hF.up n2.up
    replace hV := hV.up n2.up
    replace U := U.tr n2.up
    have k2 := n2.blk
    replace k2 : Blk w2 b2 txc.toArray := k2
    refine l_step y_assignC ?_
    refine l_eff (e_alloc zr_65) (fun v3 w3 h3 => ?_)
    obtain ⟨b3, rfl, n3⟩ := h3
    have d2_3 : b2 < b3 := Nat.lt_of_lt_of_le k2.lt n3.fresh
    have f3 : w.heap.size ≤ b3 := Nat.le_trans U.size n3.fresh
    have nb3 := hF.nb n3.fresh
    replace G := G.tr (Go.ofUp hF n3.up)
    replace hF := hF.up n3.up
    replace k2 := k2.up n3.up
    replace hV := hV.up n3.up
    replace U := U.tr n3.up
    have k3 := n3.blk
    replace k3 : Blk w3 b3 (wL 0).toArray := k3
    refine l_nil ?_
    refine hK1 _ _ ?_
    refine fg3 0 3 5 (gS rfl (gS rfl (gS rfl g0))) (gS rfl (gS rfl g0)) g0 (fun g => ?_)
    refine c_seq (fun K4 hK4 => ?_)
    refine c_block (fun Q5 hQ5 => ?_)
    refine c_seq (fun K6 hK6 => ?_)
    exact (by
      refine c_region ?_
      refine l_step (y_moveV (et (gS rfl (gS rfl g0)) rfl)) ?_
      refine l_step (y_nil (et g0 rfl)) ?_
      refine l_step (y_fld fld_75_9 (et g0 rfl)) ?_
      refine l_step (y_load1 one_5 (et g0 rfl) (at1 (hV.c1 hphs rfl))) ?_
      refine l_step (y_neq (et g0 rfl) rfl) ?_
      refine l_step (y_moveV (et g0 rfl)) ?_
      refine gsplitL (i := 20) g0 (fun q7 => ?_) (fun q7 => ?_)
      · skip
        exact absurd (of_decide_eq_true q7) (by rw [hph]; decide)
      · skip
        refine l_gstep (j := 5) (t := 20) (by exact rfl) (by exact rfl) (et g0 rfl) (by decide) (y_moveV (et (gS rfl (gS rfl (gS rfl (gS rfl (gS rfl (gS rfl (gS rfl (gS rfl (gS rfl g0))))))))) rfl)) ?_
        refine l_gstep (j := 5) (t := 20) (by exact rfl) (by exact rfl) (et (gS rfl g0) rfl) (by decide) (y_nil (et g0 rfl)) ?_
        refine l_gstep (j := 5) (t := 20) (by exact rfl) (by exact rfl) (et (gS rfl (gS rfl g0)) rfl) (by decide) (y_fld fld_75_0 (et g0 rfl)) ?_
        refine l_gstep (j := 5) (t := 20) (by exact rfl) (by exact rfl) (et (gS rfl (gS rfl (gS rfl g0))) rfl) (by decide) (y_load1 one_59 (et g0 rfl) (at1 (hV.c1 hL.pS rfl))) ?_
        refine l_gstep (j := 5) (t := 20) (by exact rfl) (by exact rfl) (et (gS rfl (gS rfl (gS rfl (gS rfl g0)))) rfl) (by decide) (y_eqlNil Hvaa.underlying59 (et g0 rfl) rfl) ?_
        refine l_step (y_pickF (et (gS rfl (gS rfl (gS rfl (gS rfl (gS rfl g0))))) rfl) (et g0 rfl)) ?_
        refine l_step (y_assignV (et g0 rfl)) ?_
        refine l_nil ?_
        refine hK6 _ _ ?_
        refine fg4 0 3 5 14 (gS rfl (gS rfl (gS rfl (gS rfl (gS rfl (gS rfl (gS rfl (gS rfl (gS rfl (gS rfl (gS rfl (gS rfl (gS rfl (gS rfl (gS rfl (gS rfl g0)))))))))))))))) (gS rfl (gS rfl (gS rfl (gS rfl (gS rfl (gS rfl (gS rfl (gS rfl (gS rfl (gS rfl (gS rfl (gS rfl (gS rfl (gS rfl (gS rfl g0))))))))))))))) (gS rfl (gS rfl (gS rfl (gS rfl (gS rfl (gS rfl (gS rfl (gS rfl (gS rfl (gS rfl (gS rfl (gS rfl (gS rfl (gS rfl g0)))))))))))))) g0 (fun g => ?_)
        refine c_false (et g0 rfl) rfl ?_
        refine c_seq (fun K9 hK9 => ?_)
        exact (by
          refine c_region ?_
          refine l_step (y_moveV (et (gS rfl (gS rfl (gS rfl g0))) rfl)) ?_
          refine l_step (y_nil (et g0 rfl)) ?_
          refine l_step (y_fld fld_75_11 (et g0 rfl)) ?_
          refine l_step (y_load1 one_5 (et g0 rfl) (at1 (hV.c1 happ rfl))) ?_
          refine l_step (y_geq (et g0 rfl) rfl) ?_
          refine l_step (y_assignV (et g0 rfl)) ?_
          refine l_nil ?_
          refine hK9 _ _ ?_
          refine fg4 0 3 5 28 (gS rfl (gS rfl (gS rfl (gS rfl (gS rfl (gS rfl (gS rfl (gS rfl (gS rfl g0))))))))) (gS rfl (gS rfl (gS rfl (gS rfl (gS rfl (gS rfl (gS rfl (gS rfl g0)))))))) (gS rfl (gS rfl (gS rfl (gS rfl (gS rfl (gS rfl (gS rfl g0))))))) g0 (fun g => ?_)
          refine c_condV (i := 28) g0 rfl (fun cB2 => ?_) (fun cB2 => ?_)
          · skip
            
            have e2 : 4 ≤ s.applied := by have h9 := of_decide_eq_true cB2; omega
            refine c_seq (fun K11 hK11 => ?_)
            exact (by
              refine c_draw Up 2 [(0, true), (1, true), (2, false)] (by kernel_rfl) (fun w12 hu => ⟨Up.refl _, ?_⟩)
              replace G := G.tr (Go.ofUp hF hu)
              replace hF := hF.up hu
              replace k2 := k2.up hu
              replace k3 := k3.up hu
              replace hV := hV.up hu
              replace U := U.tr hu
              have SU := Up.refl w12
              refine p_step (by exact rfl) (y_loadB agg_65 sz_65 (et (gS rfl (gS rfl g0)) rfl) rfl (atSB k3)) ?_
              refine p_step (by exact rfl) y_assignC ?_
              refine p_effN (by exact rfl) (e_storeS sz_65 (et (gS rfl (gS rfl (gS rfl (gS rfl g0)))) rfl) (cellsV (et (gS rfl g0) rfl) rfl) rfl (by exact one_uL _) k3) (fun v13 w13 h13 => ?_)
              obtain ⟨rfl, x13⟩ := h13
              replace G := G.tr (Go.ofUp hF x13)
              replace hF := hF.up x13
              replace k2 := k2.up x13
              replace k3 := k3.up x13
              replace hV := hV.up x13
              replace U := U.tr x13
              refine ⟨.inl rfl, ?_⟩
              refine p_nil ?_
              refine hK11 _ _ ?_
              refine fg2 5 4 (gS rfl (gS rfl (gS rfl (gS rfl g0)))) g0 (fun g => ?_)
              refine c_ret ?_
              refine hQ5 _ _ _ (in_ret ?_)
              repeat with_reducible refine then_ret ?_
              refine ret2 rfl (res_tmp (et g0 rfl)) (res_blk agg_65 sz_65 (et (gS rfl g0) rfl) (by first | (simp only [Value.cells, hV, aV, bV, wV, wL, List.size_toArray, length_bL, length_uL, length_be, size_spl, List.length_cons, List.length_nil, List.length_replicate, Nat.zero_add, Nat.reduceAdd, Nat.reduceLeDiff, Nat.le_refl]; done) | rfl) k3) ?_
              have hvd : verdN s T = 2 := by rw [verdN, if_neg (fun h => h hph), if_pos e2]
              exact ⟨_, 0, by rw [hvd]; rfl, fun h9 => by omega, G⟩)
          · skip
            
            have e2 : ¬ (4 ≤ s.applied) := by have h9 := of_decide_eq_false cB2; omega
            refine c_seq (fun K14 hK14 => ?_)
            exact (by
              refine c_region ?_
              refine l_step (y_fld fld_41_4 (et (gS rfl (gS rfl (gS rfl g0))) rfl)) ?_
              refine l_step (y_load1 one_26 (et g0 rfl) (at1 (k2.cell (rT3 2 _ rfl)))) ?_
              refine l_step (y_gtr (et g0 rfl) rfl) ?_
              refine l_step (y_moveV (et g0 rfl)) ?_
              refine gsplitL (i := 39) g0 (fun q15 => ?_) (fun q15 => ?_)
              · skip
                have g1 : 1048576 < T.gas := by have h9 := of_decide_eq_true q15; omega
                refine l_gskip (j := 3) (t := 39) (by exact rfl) (by exact rfl) (et g0 rfl) (by decide) (by decide) ?_
                refine l_gskip (j := 3) (t := 39) (by exact rfl) (by exact rfl) (et (gS rfl g0) rfl) (by decide) (by decide) ?_
                refine l_gskip (j := 3) (t := 39) (by exact rfl) (by exact rfl) (et (gS rfl (gS rfl g0)) rfl) (by decide) (by decide) ?_
                refine l_gskip (j := 3) (t := 39) (by exact rfl) (by exact rfl) (et (gS rfl (gS rfl (gS rfl g0))) rfl) (by decide) (by decide) ?_
                refine l_step (y_pickT (et (gS rfl (gS rfl (gS rfl (gS rfl g0)))) rfl) rfl) ?_
                refine l_step (y_moveV (et g0 rfl)) ?_
                refine l_gskip (j := 9) (t := 45) (by exact rfl) (by exact rfl) (et g0 rfl) (by decide) (by decide) ?_
                refine l_gskip (j := 9) (t := 45) (by exact rfl) (by exact rfl) (et (gS rfl g0) rfl) (by decide) (by decide) ?_
                refine l_step (y_pickT (et (gS rfl (gS rfl g0)) rfl) rfl) ?_
                refine l_step (y_assignV (et g0 rfl)) ?_
                refine l_nil ?_
                refine hK14 _ _ ?_
                refine fg4 0 3 5 35 (gS rfl (gS rfl (gS rfl (gS rfl (gS rfl (gS rfl (gS rfl (gS rfl (gS rfl (gS rfl (gS rfl (gS rfl (gS rfl (gS rfl (gS rfl (gS rfl (gS rfl (gS rfl (gS rfl g0))))))))))))))))))) (gS rfl (gS rfl (gS rfl (gS rfl (gS rfl (gS rfl (gS rfl (gS rfl (gS rfl (gS rfl (gS rfl (gS rfl (gS rfl (gS rfl (gS rfl (gS rfl (gS rfl (gS rfl g0)))))))))))))))))) (gS rfl (gS rfl (gS rfl (gS rfl (gS rfl (gS rfl (gS rfl (gS rfl (gS rfl (gS rfl (gS rfl (gS rfl (gS rfl (gS rfl (gS rfl (gS rfl (gS rfl g0))))))))))))))))) g0 (fun g => ?_)
                have e3 : 1048576 < T.gas ∨ 1024 < T.data.length ∨ lsOk T.access = false := by first | exact .inl g1 | exact .inr (.inl g2)
                refine c_true (et g0 rfl) rfl ?_
                refine c_seq (fun K17 hK17 => ?_)
                exact (by
                  refine c_draw Up 2 [(0, true), (1, true), (2, false)] (by kernel_rfl) (fun w18 hu => ⟨Up.refl _, ?_⟩)
                  replace G := G.tr (Go.ofUp hF hu)
                  replace hF := hF.up hu
                  replace k2 := k2.up hu
                  replace k3 := k3.up hu
                  replace hV := hV.up hu
                  replace U := U.tr hu
                  have SU := Up.refl w18
                  refine p_step (by exact rfl) (y_loadB agg_65 sz_65 (et (gS rfl g0) rfl) rfl (atSB k3)) ?_
                  refine p_step (by exact rfl) y_assignC ?_
                  refine p_effN (by exact rfl) (e_storeS sz_65 (et (gS rfl (gS rfl (gS rfl g0))) rfl) (cellsV (et (gS rfl g0) rfl) rfl) rfl (by exact one_uL _) k3) (fun v19 w19 h19 => ?_)
                  obtain ⟨rfl, x19⟩ := h19
                  replace G := G.tr (Go.ofUp hF x19)
                  replace hF := hF.up x19
                  replace k2 := k2.up x19
                  replace k3 := k3.up x19
                  replace hV := hV.up x19
                  replace U := U.tr x19
                  refine ⟨.inl rfl, ?_⟩
                  refine p_nil ?_
                  refine hK17 _ _ ?_
                  refine fg2 5 4 (gS rfl (gS rfl (gS rfl g0))) g0 (fun g => ?_)
                  refine c_ret ?_
                  refine hQ5 _ _ _ (in_ret ?_)
                  repeat with_reducible refine then_ret ?_
                  refine ret2 rfl (res_tmp (et g0 rfl)) (res_blk agg_65 sz_65 (et (gS rfl g0) rfl) (by first | (simp only [Value.cells, hV, aV, bV, wV, wL, List.size_toArray, length_bL, length_uL, length_be, size_spl, List.length_cons, List.length_nil, List.length_replicate, Nat.zero_add, Nat.reduceAdd, Nat.reduceLeDiff, Nat.le_refl]; done) | rfl) k3) ?_
                  have hvd : verdN s T = 3 := by rw [verdN, if_neg (fun h => h hph), if_neg e2, if_pos e3]
                  exact ⟨_, 0, by rw [hvd]; rfl, fun h9 => by omega, G⟩)
              · skip
                have g1 : ¬ 1048576 < T.gas := by have h9 := of_decide_eq_false q15; omega
                refine l_gstep (j := 3) (t := 39) (by exact rfl) (by exact rfl) (et g0 rfl) (by decide) (y_fld fld_41_7 (et (gS rfl (gS rfl (gS rfl (gS rfl (gS rfl (gS rfl (gS rfl (gS rfl g0)))))))) rfl)) ?_
                refine l_gstep (j := 3) (t := 39) (by exact rfl) (by exact rfl) (et (gS rfl g0) rfl) (by decide) (y_load1 one_38 (et g0 rfl) (at1 (k2.cell (rT6 0 _ rfl)))) ?_
                refine l_gstep (j := 3) (t := 39) (by exact rfl) (by exact rfl) (et (gS rfl (gS rfl g0)) rfl) (by decide) (y_len Hvaa.underlying38 (et g0 rfl)) ?_
                refine l_gstep (j := 3) (t := 39) (by exact rfl) (by exact rfl) (et (gS rfl (gS rfl (gS rfl g0))) rfl) (by decide) (y_gtr (et g0 rfl) rfl) ?_
                refine l_step (y_pickF (et (gS rfl (gS rfl (gS rfl (gS rfl g0)))) rfl) (et g0 rfl)) ?_
                refine l_step (y_moveV (et g0 rfl)) ?_
                refine gsplitL (i := 45) g0 (fun q20 => ?_) (fun q20 => ?_)
                · skip
                  have g2 : 1024 < T.data.length := by have h9 := of_decide_eq_true q20; omega
                  refine l_gskip (j := 9) (t := 45) (by exact rfl) (by exact rfl) (et g0 rfl) (by decide) (by decide) ?_
                  refine l_gskip (j := 9) (t := 45) (by exact rfl) (by exact rfl) (et (gS rfl g0) rfl) (by decide) (by decide) ?_
                  refine l_step (y_pickT (et (gS rfl (gS rfl g0)) rfl) rfl) ?_
                  refine l_step (y_assignV (et g0 rfl)) ?_
                  refine l_nil ?_
                  refine hK14 _ _ ?_
                  refine fg4 0 3 5 35 (gS rfl (gS rfl (gS rfl (gS rfl (gS rfl (gS rfl (gS rfl (gS rfl (gS rfl (gS rfl (gS rfl (gS rfl (gS rfl (gS rfl (gS rfl (gS rfl (gS rfl (gS rfl (gS rfl (gS rfl g0)))))))))))))))))))) (gS rfl (gS rfl (gS rfl (gS rfl (gS rfl (gS rfl (gS rfl (gS rfl (gS rfl (gS rfl (gS rfl (gS rfl (gS rfl (gS rfl (gS rfl (gS rfl (gS rfl (gS rfl (gS rfl g0))))))))))))))))))) (gS rfl (gS rfl (gS rfl (gS rfl (gS rfl (gS rfl (gS rfl (gS rfl (gS rfl (gS rfl (gS rfl (gS rfl (gS rfl (gS rfl (gS rfl (gS rfl (gS rfl (gS rfl g0)))))))))))))))))) g0 (fun g => ?_)
                  have e3 : 1048576 < T.gas ∨ 1024 < T.data.length ∨ lsOk T.access = false := by first | exact .inl g1 | exact .inr (.inl g2)
                  refine c_true (et g0 rfl) rfl ?_
                  refine c_seq (fun K22 hK22 => ?_)
                  exact (by
                    refine c_draw Up 2 [(0, true), (1, true), (2, false)] (by kernel_rfl) (fun w23 hu => ⟨Up.refl _, ?_⟩)
                    replace G := G.tr (Go.ofUp hF hu)
                    replace hF := hF.up hu
                    replace k2 := k2.up hu
                    replace k3 := k3.up hu
                    replace hV := hV.up hu
                    replace U := U.tr hu
                    have SU := Up.refl w23
                    refine p_step (by exact rfl) (y_loadB agg_65 sz_65 (et (gS rfl g0) rfl) rfl (atSB k3)) ?_
                    refine p_step (by exact rfl) y_assignC ?_
                    refine p_effN (by exact rfl) (e_storeS sz_65 (et (gS rfl (gS rfl (gS rfl g0))) rfl) (cellsV (et (gS rfl g0) rfl) rfl) rfl (by exact one_uL _) k3) (fun v24 w24 h24 => ?_)
                    obtain ⟨rfl, x24⟩ := h24
                    replace G := G.tr (Go.ofUp hF x24)
                    replace hF := hF.up x24
                    replace k2 := k2.up x24
                    replace k3 := k3.up x24
                    replace hV := hV.up x24
                    replace U := U.tr x24
                    refine ⟨.inl rfl, ?_⟩
                    refine p_nil ?_
                    refine hK22 _ _ ?_
                    refine fg2 5 4 (gS rfl (gS rfl (gS rfl g0))) g0 (fun g => ?_)
                    refine c_ret ?_
                    refine hQ5 _ _ _ (in_ret ?_)
                    repeat with_reducible refine then_ret ?_
                    refine ret2 rfl (res_tmp (et g0 rfl)) (res_blk agg_65 sz_65 (et (gS rfl g0) rfl) (by first | (simp only [Value.cells, hV, aV, bV, wV, wL, List.size_toArray, length_bL, length_uL, length_be, size_spl, List.length_cons, List.length_nil, List.length_replicate, Nat.zero_add, Nat.reduceAdd, Nat.reduceLeDiff, Nat.le_refl]; done) | rfl) k3) ?_
                    have hvd : verdN s T = 3 := by rw [verdN, if_neg (fun h => h hph), if_neg e2, if_pos e3]
                    exact ⟨_, 0, by rw [hvd]; rfl, fun h9 => by omega, G⟩)
                · skip
                  have g2 : ¬ 1024 < T.data.length := by have h9 := of_decide_eq_false q20; omega
                  refine l_geff (j := 9) (t := 45) (by exact rfl) (by exact rfl) (et g0 rfl) rfl (e_callV cal_122 (aC (et (gS rfl (gS rfl (gS rfl (gS rfl (gS rfl (gS rfl (gS rfl (gS rfl (gS rfl (gS rfl (gS rfl (gS rfl (gS rfl (gS rfl (gS rfl g0))))))))))))))) rfl) aN) (obs_listOK hF _ _ _ k2 (ht.mono hL0))) (fun v25 w25 h25 => ?_)
                  obtain ⟨rfl, u25⟩ := h25
                  replace G := G.tr (Go.ofUp hF u25)
                  replace hF := hF.up u25
                  replace k2 := k2.up u25
                  replace k3 := k3.up u25
                  replace hV := hV.up u25
                  replace U := U.tr u25
                  refine l_gstep (j := 9) (t := 45) (by exact rfl) (by exact rfl) (et (gS rfl g0) rfl) (by decide) (y_not (et g0 rfl)) ?_
                  refine l_step (y_pickF (et (gS rfl (gS rfl g0)) rfl) (et g0 rfl)) ?_
                  refine l_step (y_assignV (et g0 rfl)) ?_
                  refine l_nil ?_
                  refine hK14 _ _ ?_
                  refine fg4 0 3 5 35 (gS rfl (gS rfl (gS rfl (gS rfl (gS rfl (gS rfl (gS rfl (gS rfl (gS rfl (gS rfl (gS rfl (gS rfl (gS rfl (gS rfl (gS rfl (gS rfl (gS rfl (gS rfl (gS rfl (gS rfl g0)))))))))))))))))))) (gS rfl (gS rfl (gS rfl (gS rfl (gS rfl (gS rfl (gS rfl (gS rfl (gS rfl (gS rfl (gS rfl (gS rfl (gS rfl (gS rfl (gS rfl (gS rfl (gS rfl (gS rfl (gS rfl g0))))))))))))))))))) (gS rfl (gS rfl (gS rfl (gS rfl (gS rfl (gS rfl (gS rfl (gS rfl (gS rfl (gS rfl (gS rfl (gS rfl (gS rfl (gS rfl (gS rfl (gS rfl (gS rfl (gS rfl g0)))))))))))))))))) g0 (fun g => ?_)
                  refine c_condV (i := 35) g0 rfl (fun cB3 => ?_) (fun cB3 => ?_)
                  · skip
                    
                    have e3 : 1048576 < T.gas ∨ 1024 < T.data.length ∨ lsOk T.access = false := .inr (.inr (by simpa using cB3))
                    refine c_seq (fun K27 hK27 => ?_)
                    exact (by
                      refine c_draw Up 2 [(0, true), (1, true), (2, false)] (by kernel_rfl) (fun w28 hu => ⟨Up.refl _, ?_⟩)
                      replace G := G.tr (Go.ofUp hF hu)
                      replace hF := hF.up hu
                      replace k2 := k2.up hu
                      replace k3 := k3.up hu
                      replace hV := hV.up hu
                      replace U := U.tr hu
                      have SU := Up.refl w28
                      refine p_step (by exact rfl) (y_loadB agg_65 sz_65 (et (gS rfl (gS rfl g0)) rfl) rfl (atSB k3)) ?_
                      refine p_step (by exact rfl) y_assignC ?_
                      refine p_effN (by exact rfl) (e_storeS sz_65 (et (gS rfl (gS rfl (gS rfl (gS rfl g0)))) rfl) (cellsV (et (gS rfl g0) rfl) rfl) rfl (by exact one_uL _) k3) (fun v29 w29 h29 => ?_)
                      obtain ⟨rfl, x29⟩ := h29
                      replace G := G.tr (Go.ofUp hF x29)
                      replace hF := hF.up x29
                      replace k2 := k2.up x29
                      replace k3 := k3.up x29
                      replace hV := hV.up x29
                      replace U := U.tr x29
                      refine ⟨.inl rfl, ?_⟩
                      refine p_nil ?_
                      refine hK27 _ _ ?_
                      refine fg2 5 4 (gS rfl (gS rfl (gS rfl (gS rfl g0)))) g0 (fun g => ?_)
                      refine c_ret ?_
                      refine hQ5 _ _ _ (in_ret ?_)
                      repeat with_reducible refine then_ret ?_
                      refine ret2 rfl (res_tmp (et g0 rfl)) (res_blk agg_65 sz_65 (et (gS rfl g0) rfl) (by first | (simp only [Value.cells, hV, aV, bV, wV, wL, List.size_toArray, length_bL, length_uL, length_be, size_spl, List.length_cons, List.length_nil, List.length_replicate, Nat.zero_add, Nat.reduceAdd, Nat.reduceLeDiff, Nat.le_refl]; done) | rfl) k3) ?_
                      have hvd : verdN s T = 3 := by rw [verdN, if_neg (fun h => h hph), if_neg e2, if_pos e3]
                      exact ⟨_, 0, by rw [hvd]; rfl, fun h9 => by omega, G⟩)
                  · skip
                    
                    have hls9 : lsOk T.access = true := by simpa using cB3
                    have e3 : ¬ (1048576 < T.gas ∨ 1024 < T.data.length ∨ lsOk T.access = false) := fun h9 => h9.elim g1 (fun h9 => h9.elim g2 (fun h9 => by rw [h9] at hls9; cases hls9))
                    have hd9 : T.data.length ≤ 1024 := by omega
                    refine c_skip ?_
                    refine hQ5 _ _ _ (in_normal ?_)
                    refine hK4 _ _ ?_
                    refine fg3 0 3 5 (gS rfl (gS rfl (gS rfl (gS rfl g0)))) (gS rfl (gS rfl (gS rfl g0))) (gS rfl (gS rfl g0)) (fun g => ?_)
                    refine c_seq (fun K30 hK30 => ?_)
                    exact (by
                      refine c_draw Up 8 [(0, true), (1, true), (2, true), (3, true), (4, true), (5, true), (6, false), (7, true)] (by kernel_rfl) (fun w31 hu => ⟨Up.refl _, ?_⟩)
                      replace G := G.tr (Go.ofUp hF hu)
                      replace hF := hF.up hu
                      replace k2 := k2.up hu
                      replace k3 := k3.up hu
                      replace hV := hV.up hu
                      replace U := U.tr hu
                      have SU := Up.refl w31
                      refine p_step (by exact rfl) (y_moveV (et (gS rfl (gS rfl g0)) rfl)) ?_
                      refine p_step (by exact rfl) (y_nil (et g0 rfl)) ?_
                      refine p_step (by exact rfl) (y_fld fld_75_0 (et g0 rfl)) ?_
                      refine p_step (by exact rfl) (y_load1 one_59 (et g0 rfl) (atS (hV.c1 hL.pS rfl))) ?_
                      refine p_step (by exact rfl) (y_fld fld_41_0 (et (gS rfl (gS rfl (gS rfl (gS rfl (gS rfl g0))))) rfl)) ?_
                      refine p_step (by exact rfl) (y_loadR agg_25 sz_25 (et g0 rfl) (by rw [length_bL, length_be]) (atSR (k2.row rT1))) ?_
                      refine p_eff (by exact rfl) (e_callV cal_161 (aC (et (gS rfl (gS rfl g0)) rfl) (aC (et g0 rfl) aN)) (hno ▸ v_nonce hV ho T.frm tok.frm)) (fun v32 w32 h32 => ?_)
                      obtain ⟨rfl, u32⟩ := h32
                      replace G := G.tr (Go.ofUp hF u32)
                      replace hF := hF.up u32
                      replace k2 := k2.up u32
                      replace k3 := k3.up u32
                      replace hV := hV.up u32
                      replace U := U.tr u32
                      refine ⟨.inr (SU.tr u32), ?_⟩
                      replace SU := SU.tr u32
                      refine p_step (by exact rfl) (y_assignV (et g0 rfl)) ?_
                      refine p_nil ?_
                      refine hK30 _ _ ?_
                      refine fg4 0 3 5 6 (gS rfl (gS rfl (gS rfl (gS rfl (gS rfl (gS rfl (gS rfl (gS rfl (gS rfl (gS rfl g0)))))))))) (gS rfl (gS rfl (gS rfl (gS rfl (gS rfl (gS rfl (gS rfl (gS rfl (gS rfl g0))))))))) (gS rfl (gS rfl (gS rfl (gS rfl (gS rfl (gS rfl (gS rfl (gS rfl g0)))))))) g0 (fun g => ?_)
                      refine c_seq (fun K33 hK33 => ?_)
                      refine c_block (fun Q34 hQ34 => ?_)
                      refine c_seq (fun K35 hK35 => ?_)
                      exact (by
                        refine c_region ?_
                        refine l_step (y_fld fld_41_3 (et (gS rfl (gS rfl g0)) rfl)) ?_
                        refine l_step (y_load1 one_26 (et g0 rfl) (at1 (k2.cell (rT3 1 _ rfl)))) ?_
                        refine l_step (y_moveV (et (gS rfl (gS rfl g0)) rfl)) ?_
                        refine l_step (y_neq (et (gS rfl g0) rfl) (et g0 rfl)) ?_
                        refine l_step (y_assignV (et g0 rfl)) ?_
                        refine l_nil ?_
                        refine hK35 _ _ ?_
                        refine fg5 0 3 5 6 57 (gS rfl (gS rfl (gS rfl (gS rfl (gS rfl (gS rfl (gS rfl (gS rfl g0)))))))) (gS rfl (gS rfl (gS rfl (gS rfl (gS rfl (gS rfl (gS rfl g0))))))) (gS rfl (gS rfl (gS rfl (gS rfl (gS rfl (gS rfl g0)))))) (gS rfl (gS rfl (gS rfl (gS rfl (gS rfl g0))))) g0 (fun g => ?_)
                        refine c_condV (i := 57) g0 rfl (fun cB4 => ?_) (fun cB4 => ?_)
                        · skip
                          
                          have e4 : T.nonce ≠ (vdA s T).nonce := by have h9 := of_decide_eq_true cB4; omega
                          refine c_seq (fun K37 hK37 => ?_)
                          exact (by
                            refine c_draw Up 2 [(0, true), (1, true), (2, false)] (by kernel_rfl) (fun w38 hu => ⟨Up.refl _, ?_⟩)
                            replace G := G.tr (Go.ofUp hF hu)
                            replace hF := hF.up hu
                            replace k2 := k2.up hu
                            replace k3 := k3.up hu
                            replace hV := hV.up hu
                            replace U := U.tr hu
                            have SU := Up.refl w38
                            refine p_step (by exact rfl) (y_loadB agg_65 sz_65 (et (gS rfl (gS rfl (gS rfl g0))) rfl) rfl (atSB k3)) ?_
                            refine p_step (by exact rfl) y_assignC ?_
                            refine p_effN (by exact rfl) (e_storeS sz_65 (et (gS rfl (gS rfl (gS rfl (gS rfl (gS rfl g0))))) rfl) (cellsV (et (gS rfl g0) rfl) rfl) rfl (by exact one_uL _) k3) (fun v39 w39 h39 => ?_)
                            obtain ⟨rfl, x39⟩ := h39
                            replace G := G.tr (Go.ofUp hF x39)
                            replace hF := hF.up x39
                            replace k2 := k2.up x39
                            replace k3 := k3.up x39
                            replace hV := hV.up x39
                            replace U := U.tr x39
                            refine ⟨.inl rfl, ?_⟩
                            refine p_nil ?_
                            refine hK37 _ _ ?_
                            refine fg2 5 4 (gS rfl (gS rfl (gS rfl (gS rfl (gS rfl g0))))) g0 (fun g => ?_)
                            refine c_ret ?_
                            refine hQ34 _ _ _ (in_ret ?_)
                            repeat with_reducible refine then_ret ?_
                            refine ret2 rfl (res_tmp (et g0 rfl)) (res_blk agg_65 sz_65 (et (gS rfl g0) rfl) (by first | (simp only [Value.cells, hV, aV, bV, wV, wL, List.size_toArray, length_bL, length_uL, length_be, size_spl, List.length_cons, List.length_nil, List.length_replicate, Nat.zero_add, Nat.reduceAdd, Nat.reduceLeDiff, Nat.le_refl]; done) | rfl) k3) ?_
                            have hvd : verdN s T = 4 := by rw [verdN, if_neg (fun h => h hph), if_neg e2, if_neg e3, if_pos e4]
                            exact ⟨_, 0, by rw [hvd]; rfl, fun h9 => by omega, G⟩)
                        · skip
                          
                          have e4 : ¬ (T.nonce ≠ (vdA s T).nonce) := by have h9 := of_decide_eq_false cB4; omega
                          refine c_seq (fun K40 hK40 => ?_)
                          exact (by
                            refine c_region ?_
                            refine l_step (y_moveV (et (gS rfl (gS rfl g0)) rfl)) ?_
                            refine l_step (y_eql (et g0 rfl) rfl) ?_
                            refine l_step (y_assignV (et g0 rfl)) ?_
                            refine l_nil ?_
                            refine hK40 _ _ ?_
                            refine fg4 0 3 5 63 (gS rfl (gS rfl (gS rfl (gS rfl (gS rfl (gS rfl (gS rfl (gS rfl g0)))))))) (gS rfl (gS rfl (gS rfl (gS rfl (gS rfl (gS rfl (gS rfl g0))))))) (gS rfl (gS rfl (gS rfl (gS rfl (gS rfl (gS rfl g0)))))) g0 (fun g => ?_)
                            refine c_condV (i := 63) g0 rfl (fun cB5 => ?_) (fun cB5 => ?_)
                            · skip
                              
                              have e5 : (vdA s T).nonce = 18446744073709551615 := by have h9 := of_decide_eq_true cB5; omega
                              refine c_seq (fun K42 hK42 => ?_)
                              exact (by
                                refine c_draw Up 2 [(0, true), (1, true), (2, false)] (by kernel_rfl) (fun w43 hu => ⟨Up.refl _, ?_⟩)
                                replace G := G.tr (Go.ofUp hF hu)
                                replace hF := hF.up hu
                                replace k2 := k2.up hu
                                replace k3 := k3.up hu
                                replace hV := hV.up hu
                                replace U := U.tr hu
                                have SU := Up.refl w43
                                refine p_step (by exact rfl) (y_loadB agg_65 sz_65 (et (gS rfl (gS rfl g0)) rfl) rfl (atSB k3)) ?_
                                refine p_step (by exact rfl) y_assignC ?_
                                refine p_effN (by exact rfl) (e_storeS sz_65 (et (gS rfl (gS rfl (gS rfl (gS rfl g0)))) rfl) (cellsV (et (gS rfl g0) rfl) rfl) rfl (by exact one_uL _) k3) (fun v44 w44 h44 => ?_)
                                obtain ⟨rfl, x44⟩ := h44
                                replace G := G.tr (Go.ofUp hF x44)
                                replace hF := hF.up x44
                                replace k2 := k2.up x44
                                replace k3 := k3.up x44
                                replace hV := hV.up x44
                                replace U := U.tr x44
                                refine ⟨.inl rfl, ?_⟩
                                refine p_nil ?_
                                refine hK42 _ _ ?_
                                refine fg2 5 4 (gS rfl (gS rfl (gS rfl (gS rfl g0)))) g0 (fun g => ?_)
                                refine c_ret ?_
                                refine hQ34 _ _ _ (in_ret ?_)
                                repeat with_reducible refine then_ret ?_
                                refine ret2 rfl (res_tmp (et g0 rfl)) (res_blk agg_65 sz_65 (et (gS rfl g0) rfl) (by first | (simp only [Value.cells, hV, aV, bV, wV, wL, List.size_toArray, length_bL, length_uL, length_be, size_spl, List.length_cons, List.length_nil, List.length_replicate, Nat.zero_add, Nat.reduceAdd, Nat.reduceLeDiff, Nat.le_refl]; done) | rfl) k3) ?_
                                have hvd : verdN s T = 5 := by rw [verdN, if_neg (fun h => h hph), if_neg e2, if_neg e3, if_neg e4, if_pos e5]
                                exact ⟨_, 0, by rw [hvd]; rfl, fun h9 => by omega, G⟩)
                            · skip
                              
                              have e5 : ¬ ((vdA s T).nonce = 18446744073709551615) := by have h9 := of_decide_eq_false cB5; omega
                              refine c_seq (fun K45 hK45 => ?_)
                              exact (by
                                refine c_draw Up 10 [(0, true), (1, true), (2, true), (3, true), (4, true), (5, true), (6, false), (7, true), (8, true), (9, true)] (by kernel_rfl) (fun w46 hu => ⟨Up.refl _, ?_⟩)
                                replace G := G.tr (Go.ofUp hF hu)
                                replace hF := hF.up hu
                                replace k2 := k2.up hu
                                replace k3 := k3.up hu
                                replace hV := hV.up hu
                                replace U := U.tr hu
                                have SU := Up.refl w46
                                refine p_step (by exact rfl) (y_moveV (et (gS rfl (gS rfl (gS rfl (gS rfl g0)))) rfl)) ?_
                                refine p_step (by exact rfl) (y_nil (et g0 rfl)) ?_
                                refine p_step (by exact rfl) (y_fld fld_75_0 (et g0 rfl)) ?_
                                refine p_step (by exact rfl) (y_load1 one_59 (et g0 rfl) (atS (hV.c1 hL.pS rfl))) ?_
                                refine p_step (by exact rfl) (y_fld fld_41_0 (et (gS rfl (gS rfl (gS rfl (gS rfl (gS rfl (gS rfl (gS rfl g0))))))) rfl)) ?_
                                refine p_step (by exact rfl) (y_loadR agg_25 sz_25 (et g0 rfl) (by rw [length_bL, length_be]) (atSR (k2.row rT1))) ?_
                                refine p_eff (by exact rfl) (e_callV cal_103 (aC (et (gS rfl (gS rfl g0)) rfl) (aC (et g0 rfl) aN)) (hco ▸ v_code hV ho T.frm tok.frm)) (fun v47 w47 h47 => ?_)
                                obtain ⟨H47, g47, n47⟩ := h47
                                have hlew47 := g47.le
                                replace nb2 := g47.nb nb2 k2.lt
                                replace nb3 := g47.nb nb3 k3.lt
                                replace hL0 := hL0.trans hlew47
                                replace k2 := k2.up g47.up
                                replace k3 := k3.up g47.up
                                replace hV := hV.up g47.up
                                replace U := U.tr g47.up
                                replace G := G.tr g47
                                replace hF := g47.fz
                                obtain ⟨ka9, kc9, rfl⟩ := n47.sl
                                refine ⟨.inr (SU.tr g47.up), ?_⟩
                                replace SU := SU.tr g47.up
                                refine p_step (by exact rfl) (y_len Hvaa.underlying38 (et g0 rfl)) ?_
                                refine p_step (by exact rfl) (y_gtr (et g0 rfl) rfl) ?_
                                exact (by
                                  refine p_step (by exact rfl) (y_assignV (et g0 rfl)) ?_
                                  refine p_nil ?_
                                  refine hK45 _ _ ?_
                                  refine fg4 0 3 5 67 (gS rfl (gS rfl (gS rfl (gS rfl (gS rfl (gS rfl (gS rfl (gS rfl (gS rfl (gS rfl (gS rfl (gS rfl (gS rfl (gS rfl g0)))))))))))))) (gS rfl (gS rfl (gS rfl (gS rfl (gS rfl (gS rfl (gS rfl (gS rfl (gS rfl (gS rfl (gS rfl (gS rfl (gS rfl g0))))))))))))) (gS rfl (gS rfl (gS rfl (gS rfl (gS rfl (gS rfl (gS rfl (gS rfl (gS rfl (gS rfl (gS rfl (gS rfl g0)))))))))))) g0 (fun g => ?_)
                                  refine c_condV (i := 67) g0 rfl (fun cB6 => ?_) (fun cB6 => ?_)
                                  · skip
                                    
                                    have e6 : 0 < (vdA s T).code.length := by have h9 := of_decide_eq_true cB6; omega
                                    refine c_seq (fun K49 hK49 => ?_)
                                    exact (by
                                      refine c_draw Up 2 [(0, true), (1, true), (2, false)] (by kernel_rfl) (fun w50 hu => ⟨Up.refl _, ?_⟩)
                                      replace G := G.tr (Go.ofUp hF hu)
                                      replace hF := hF.up hu
                                      replace k2 := k2.up hu
                                      replace k3 := k3.up hu
                                      replace hV := hV.up hu
                                      replace U := U.tr hu
                                      have SU := Up.refl w50
                                      refine p_step (by exact rfl) (y_loadB agg_65 sz_65 (et (gS rfl (gS rfl g0)) rfl) rfl (atSB k3)) ?_
                                      refine p_step (by exact rfl) y_assignC ?_
                                      refine p_effN (by exact rfl) (e_storeS sz_65 (et (gS rfl (gS rfl (gS rfl (gS rfl g0)))) rfl) (cellsV (et (gS rfl g0) rfl) rfl) rfl (by exact one_uL _) k3) (fun v51 w51 h51 => ?_)
                                      obtain ⟨rfl, x51⟩ := h51
                                      replace G := G.tr (Go.ofUp hF x51)
                                      replace hF := hF.up x51
                                      replace k2 := k2.up x51
                                      replace k3 := k3.up x51
                                      replace hV := hV.up x51
                                      replace U := U.tr x51
                                      refine ⟨.inl rfl, ?_⟩
                                      refine p_nil ?_
                                      refine hK49 _ _ ?_
                                      refine fg2 5 4 (gS rfl (gS rfl (gS rfl (gS rfl g0)))) g0 (fun g => ?_)
                                      refine c_ret ?_
                                      refine hQ34 _ _ _ (in_ret ?_)
                                      repeat with_reducible refine then_ret ?_
                                      refine ret2 rfl (res_tmp (et g0 rfl)) (res_blk agg_65 sz_65 (et (gS rfl g0) rfl) (by first | (simp only [Value.cells, hV, aV, bV, wV, wL, List.size_toArray, length_bL, length_uL, length_be, size_spl, List.length_cons, List.length_nil, List.length_replicate, Nat.zero_add, Nat.reduceAdd, Nat.reduceLeDiff, Nat.le_refl]; done) | rfl) k3) ?_
                                      have hvd : verdN s T = 6 := by rw [verdN, if_neg (fun h => h hph), if_neg e2, if_neg e3, if_neg e4, if_neg e5, if_pos e6]
                                      exact ⟨_, 0, by rw [hvd]; rfl, fun h9 => by omega, G⟩)
                                  · skip
                                    
                                    have e6 : ¬ (0 < (vdA s T).code.length) := by have h9 := of_decide_eq_false cB6; omega
                                    refine c_seq (fun K52 hK52 => ?_)
                                    exact (by
                                      refine c_region ?_
                                      refine l_step (y_fld fld_41_2 (et (gS rfl (gS rfl (gS rfl g0))) rfl)) ?_
                                      refine l_step (y_load1 one_4 (et g0 rfl) (at1 (k2.cell (rT3 0 _ rfl)))) ?_
                                      refine l_step (y_moveV (et g0 rfl)) ?_
                                      refine gsplitL (i := 81) g0 (fun q53 => ?_) (fun q53 => ?_)
                                      · skip
                                        have hcr := q53
                                        refine l_gstep (j := 2) (t := 81) (by exact rfl) (by exact rfl) (et g0 rfl) (by decide) (y_fld fld_41_7 (et (gS rfl (gS rfl (gS rfl (gS rfl (gS rfl (gS rfl (gS rfl g0))))))) rfl)) ?_
                                        refine l_gstep (j := 2) (t := 81) (by exact rfl) (by exact rfl) (et (gS rfl g0) rfl) (by decide) (y_load1 one_38 (et g0 rfl) (at1 (k2.cell (rT6 0 _ rfl)))) ?_
                                        refine l_gstep (j := 2) (t := 81) (by exact rfl) (by exact rfl) (et (gS rfl (gS rfl g0)) rfl) (by decide) (y_len Hvaa.underlying38 (et g0 rfl)) ?_
                                        refine l_gstep (j := 2) (t := 81) (by exact rfl) (by exact rfl) (et (gS rfl (gS rfl (gS rfl g0))) rfl) (by decide) (y_gtr (et g0 rfl) rfl) ?_
                                        refine l_step (y_pickT (et (gS rfl (gS rfl (gS rfl (gS rfl g0)))) rfl) (et g0 rfl)) ?_
                                        refine l_step (y_assignV (et g0 rfl)) ?_
                                        refine l_nil ?_
                                        refine hK52 _ _ ?_
                                        refine fg4 0 3 5 78 (gS rfl (gS rfl (gS rfl (gS rfl (gS rfl (gS rfl (gS rfl (gS rfl (gS rfl (gS rfl (gS rfl (gS rfl (gS rfl (gS rfl g0)))))))))))))) (gS rfl (gS rfl (gS rfl (gS rfl (gS rfl (gS rfl (gS rfl (gS rfl (gS rfl (gS rfl (gS rfl (gS rfl (gS rfl g0))))))))))))) (gS rfl (gS rfl (gS rfl (gS rfl (gS rfl (gS rfl (gS rfl (gS rfl (gS rfl (gS rfl (gS rfl (gS rfl g0)))))))))))) g0 (fun g => ?_)
                                        refine c_condV (i := 78) g0 rfl (fun cB7 => ?_) (fun cB7 => ?_)
                                        · skip
                                          
                                          have e7 : T.create = true ∧ 512 < T.data.length := ⟨hcr, by have h9 := of_decide_eq_true cB7; omega⟩
                                          refine c_seq (fun K55 hK55 => ?_)
                                          exact (by
                                            refine c_draw Up 2 [(0, true), (1, true), (2, false)] (by kernel_rfl) (fun w56 hu => ⟨Up.refl _, ?_⟩)
                                            replace G := G.tr (Go.ofUp hF hu)
                                            replace hF := hF.up hu
                                            replace k2 := k2.up hu
                                            replace k3 := k3.up hu
                                            replace hV := hV.up hu
                                            replace U := U.tr hu
                                            have SU := Up.refl w56
                                            refine p_step (by exact rfl) (y_loadB agg_65 sz_65 (et (gS rfl (gS rfl g0)) rfl) rfl (atSB k3)) ?_
                                            refine p_step (by exact rfl) y_assignC ?_
                                            refine p_effN (by exact rfl) (e_storeS sz_65 (et (gS rfl (gS rfl (gS rfl (gS rfl g0)))) rfl) (cellsV (et (gS rfl g0) rfl) rfl) rfl (by exact one_uL _) k3) (fun v57 w57 h57 => ?_)
                                            obtain ⟨rfl, x57⟩ := h57
                                            replace G := G.tr (Go.ofUp hF x57)
                                            replace hF := hF.up x57
                                            replace k2 := k2.up x57
                                            replace k3 := k3.up x57
                                            replace hV := hV.up x57
                                            replace U := U.tr x57
                                            refine ⟨.inl rfl, ?_⟩
                                            refine p_nil ?_
                                            refine hK55 _ _ ?_
                                            refine fg2 5 4 (gS rfl (gS rfl (gS rfl (gS rfl g0)))) g0 (fun g => ?_)
                                            refine c_ret ?_
                                            refine hQ34 _ _ _ (in_ret ?_)
                                            repeat with_reducible refine then_ret ?_
                                            refine ret2 rfl (res_tmp (et g0 rfl)) (res_blk agg_65 sz_65 (et (gS rfl g0) rfl) (by first | (simp only [Value.cells, hV, aV, bV, wV, wL, List.size_toArray, length_bL, length_uL, length_be, size_spl, List.length_cons, List.length_nil, List.length_replicate, Nat.zero_add, Nat.reduceAdd, Nat.reduceLeDiff, Nat.le_refl]; done) | rfl) k3) ?_
                                            have hvd : verdN s T = 7 := by rw [verdN, if_neg (fun h => h hph), if_neg e2, if_neg e3, if_neg e4, if_neg e5, if_neg e6, if_pos e7]
                                            exact ⟨_, 0, by rw [hvd]; rfl, fun h9 => by omega, G⟩)
                                        · skip
                                          
                                          have e7 : ¬ (T.create = true ∧ 512 < T.data.length) := fun h9 => by have h8 := of_decide_eq_false cB7; omega
                                          refine c_seq (fun K58 hK58 => ?_)
                                          exact (by
                                            refine c_draw Up 6 [(0, true), (1, true), (2, true), (3, false), (4, true), (5, true)] (by kernel_rfl) (fun w59 hu => ⟨Up.refl _, ?_⟩)
                                            replace G := G.tr (Go.ofUp hF hu)
                                            replace hF := hF.up hu
                                            replace k2 := k2.up hu
                                            replace k3 := k3.up hu
                                            replace hV := hV.up hu
                                            replace U := U.tr hu
                                            have SU := Up.refl w59
                                            refine p_step (by exact rfl) (y_fld fld_41_4 (et (gS rfl (gS rfl (gS rfl g0))) rfl)) ?_
                                            refine p_step (by exact rfl) (y_load1 one_26 (et g0 rfl) (atS (k2.cell (rT3 2 _ rfl)))) ?_
                                            refine p_step (by exact rfl) (y_loadB agg_41 sz_41 (et (gS rfl (gS rfl (gS rfl (gS rfl (gS rfl g0))))) rfl) (by rw [List.size_toArray]; exact htl) (atSB k2)) ?_
                                            refine p_eff (by exact rfl) (e_callV cal_94 (aC (et g0 rfl) aN) (mach_intrinsic hF (ht.mono hL0) hd9 hls9)) (fun v60 w60 h60 => ?_)
                                            obtain ⟨rfl, u60⟩ := h60
                                            replace G := G.tr (Go.ofUp hF u60)
                                            replace hF := hF.up u60
                                            replace k2 := k2.up u60
                                            replace k3 := k3.up u60
                                            replace hV := hV.up u60
                                            replace U := U.tr u60
                                            refine ⟨.inr (SU.tr u60), ?_⟩
                                            replace SU := SU.tr u60
                                            refine p_step (by exact rfl) (y_lss (et (gS rfl (gS rfl g0)) rfl) (et g0 rfl)) ?_
                                            refine p_step (by exact rfl) (y_assignV (et g0 rfl)) ?_
                                            refine p_nil ?_
                                            refine hK58 _ _ ?_
                                            refine fg4 0 3 5 88 (gS rfl (gS rfl (gS rfl (gS rfl (gS rfl (gS rfl (gS rfl (gS rfl (gS rfl (gS rfl g0)))))))))) (gS rfl (gS rfl (gS rfl (gS rfl (gS rfl (gS rfl (gS rfl (gS rfl (gS rfl g0))))))))) (gS rfl (gS rfl (gS rfl (gS rfl (gS rfl (gS rfl (gS rfl (gS rfl g0)))))))) g0 (fun g => ?_)
                                            refine c_condV (i := 88) g0 rfl (fun cB8 => ?_) (fun cB8 => ?_)
                                            · skip
                                              
                                              have e8 : T.gas < intrN T := by have h9 := of_decide_eq_true cB8; omega
                                              refine c_seq (fun K62 hK62 => ?_)
                                              exact (by
                                                refine c_draw Up 2 [(0, true), (1, true), (2, false)] (by kernel_rfl) (fun w63 hu => ⟨Up.refl _, ?_⟩)
                                                replace G := G.tr (Go.ofUp hF hu)
                                                replace hF := hF.up hu
                                                replace k2 := k2.up hu
                                                replace k3 := k3.up hu
                                                replace hV := hV.up hu
                                                replace U := U.tr hu
                                                have SU := Up.refl w63
                                                refine p_step (by exact rfl) (y_loadB agg_65 sz_65 (et (gS rfl (gS rfl g0)) rfl) rfl (atSB k3)) ?_
                                                refine p_step (by exact rfl) y_assignC ?_
                                                refine p_effN (by exact rfl) (e_storeS sz_65 (et (gS rfl (gS rfl (gS rfl (gS rfl g0)))) rfl) (cellsV (et (gS rfl g0) rfl) rfl) rfl (by exact one_uL _) k3) (fun v64 w64 h64 => ?_)
                                                obtain ⟨rfl, x64⟩ := h64
                                                replace G := G.tr (Go.ofUp hF x64)
                                                replace hF := hF.up x64
                                                replace k2 := k2.up x64
                                                replace k3 := k3.up x64
                                                replace hV := hV.up x64
                                                replace U := U.tr x64
                                                refine ⟨.inl rfl, ?_⟩
                                                refine p_nil ?_
                                                refine hK62 _ _ ?_
                                                refine fg2 5 4 (gS rfl (gS rfl (gS rfl (gS rfl g0)))) g0 (fun g => ?_)
                                                refine c_ret ?_
                                                refine hQ34 _ _ _ (in_ret ?_)
                                                repeat with_reducible refine then_ret ?_
                                                refine ret2 rfl (res_tmp (et g0 rfl)) (res_blk agg_65 sz_65 (et (gS rfl g0) rfl) (by first | (simp only [Value.cells, hV, aV, bV, wV, wL, List.size_toArray, length_bL, length_uL, length_be, size_spl, List.length_cons, List.length_nil, List.length_replicate, Nat.zero_add, Nat.reduceAdd, Nat.reduceLeDiff, Nat.le_refl]; done) | rfl) k3) ?_
                                                have hvd : verdN s T = 8 := by rw [verdN, if_neg (fun h => h hph), if_neg e2, if_neg e3, if_neg e4, if_neg e5, if_neg e6, if_neg e7, if_pos e8]
                                                exact ⟨_, 0, by rw [hvd]; rfl, fun h9 => by omega, G⟩)
                                            · skip
                                              
                                              have e8 : ¬ (T.gas < intrN T) := by have h9 := of_decide_eq_false cB8; omega
                                              refine c_seq (fun K65 hK65 => ?_)
                                              exact (by
                                                refine c_draw Up 9 [(0, true), (1, true), (2, true), (3, true), (4, true), (5, true), (6, true), (7, true), (8, true)] (by kernel_rfl) (fun w66 hu => ⟨Up.refl _, ?_⟩)
                                                replace G := G.tr (Go.ofUp hF hu)
                                                replace hF := hF.up hu
                                                replace k2 := k2.up hu
                                                replace k3 := k3.up hu
                                                replace hV := hV.up hu
                                                replace U := U.tr hu
                                                have SU := Up.refl w66
                                                refine p_step (by exact rfl) (y_fld fld_41_4 (et (gS rfl (gS rfl (gS rfl g0))) rfl)) ?_
                                                refine p_step (by exact rfl) (y_load1 one_26 (et g0 rfl) (atS (k2.cell (rT3 2 _ rfl)))) ?_
                                                refine p_step (by exact rfl) (y_moveV (et (gS rfl (gS rfl (gS rfl (gS rfl (gS rfl (gS rfl g0)))))) rfl)) ?_
                                                refine p_step (by exact rfl) (y_nil (et g0 rfl)) ?_
                                                refine p_step (by exact rfl) (y_fld fld_75_6 (et g0 rfl)) ?_
                                                refine p_step (by exact rfl) (y_fld fld_31_3 (et g0 rfl)) ?_
                                                refine p_step (by exact rfl) (y_load1 one_26 (et g0 rfl) (atS (hV.c1 (eNu 2 _ rfl) rfl))) ?_
                                                refine p_step (by exact rfl) (y_gtr (et (gS rfl (gS rfl (gS rfl (gS rfl (gS rfl g0))))) rfl) (et g0 rfl)) ?_
                                                refine p_step (by exact rfl) (y_assignV (et g0 rfl)) ?_
                                                refine p_nil ?_
                                                refine hK65 _ _ ?_
                                                refine fg4 0 3 5 95 (gS rfl (gS rfl (gS rfl (gS rfl (gS rfl (gS rfl (gS rfl (gS rfl (gS rfl (gS rfl (gS rfl (gS rfl (gS rfl g0))))))))))))) (gS rfl (gS rfl (gS rfl (gS rfl (gS rfl (gS rfl (gS rfl (gS rfl (gS rfl (gS rfl (gS rfl (gS rfl g0)))))))))))) (gS rfl (gS rfl (gS rfl (gS rfl (gS rfl (gS rfl (gS rfl (gS rfl (gS rfl (gS rfl (gS rfl g0))))))))))) g0 (fun g => ?_)
                                                refine c_condV (i := 95) g0 rfl (fun cB9 => ?_) (fun cB9 => ?_)
                                                · skip
                                                  
                                                  have e9 : s.env.gasLimit < T.gas := by have h9 := of_decide_eq_true cB9; omega
                                                  refine c_seq (fun K68 hK68 => ?_)
                                                  exact (by
                                                    refine c_draw Up 2 [(0, true), (1, true), (2, false)] (by kernel_rfl) (fun w69 hu => ⟨Up.refl _, ?_⟩)
                                                    replace G := G.tr (Go.ofUp hF hu)
                                                    replace hF := hF.up hu
                                                    replace k2 := k2.up hu
                                                    replace k3 := k3.up hu
                                                    replace hV := hV.up hu
                                                    replace U := U.tr hu
                                                    have SU := Up.refl w69
                                                    refine p_step (by exact rfl) (y_loadB agg_65 sz_65 (et (gS rfl (gS rfl g0)) rfl) rfl (atSB k3)) ?_
                                                    refine p_step (by exact rfl) y_assignC ?_
                                                    refine p_effN (by exact rfl) (e_storeS sz_65 (et (gS rfl (gS rfl (gS rfl (gS rfl g0)))) rfl) (cellsV (et (gS rfl g0) rfl) rfl) rfl (by exact one_uL _) k3) (fun v70 w70 h70 => ?_)
                                                    obtain ⟨rfl, x70⟩ := h70
                                                    replace G := G.tr (Go.ofUp hF x70)
                                                    replace hF := hF.up x70
                                                    replace k2 := k2.up x70
                                                    replace k3 := k3.up x70
                                                    replace hV := hV.up x70
                                                    replace U := U.tr x70
                                                    refine ⟨.inl rfl, ?_⟩
                                                    refine p_nil ?_
                                                    refine hK68 _ _ ?_
                                                    refine fg2 5 4 (gS rfl (gS rfl (gS rfl (gS rfl g0)))) g0 (fun g => ?_)
                                                    refine c_ret ?_
                                                    refine hQ34 _ _ _ (in_ret ?_)
                                                    repeat with_reducible refine then_ret ?_
                                                    refine ret2 rfl (res_tmp (et g0 rfl)) (res_blk agg_65 sz_65 (et (gS rfl g0) rfl) (by first | (simp only [Value.cells, hV, aV, bV, wV, wL, List.size_toArray, length_bL, length_uL, length_be, size_spl, List.length_cons, List.length_nil, List.length_replicate, Nat.zero_add, Nat.reduceAdd, Nat.reduceLeDiff, Nat.le_refl]; done) | rfl) k3) ?_
                                                    have hvd : verdN s T = 9 := by rw [verdN, if_neg (fun h => h hph), if_neg e2, if_neg e3, if_neg e4, if_neg e5, if_neg e6, if_neg e7, if_neg e8, if_pos e9]
                                                    exact ⟨_, 0, by rw [hvd]; rfl, fun h9 => by omega, G⟩)
                                                · skip
                                                  
                                                  have e9 : ¬ (s.env.gasLimit < T.gas) := by have h9 := of_decide_eq_false cB9; omega
                                                  refine c_skip ?_
                                                  refine hQ34 _ _ _ (in_normal ?_)
                                                  refine hK33 _ _ ?_
                                                  refine fg3 0 3 5 (gS rfl (gS rfl (gS rfl (gS rfl g0)))) (gS rfl (gS rfl (gS rfl g0))) (gS rfl (gS rfl g0)) (fun g => ?_)
                                                  refine c_seq (fun K71 hK71 => ?_)
                                                  exact (by
                                                    refine c_region ?_
                                                    refine l_step (y_loadB agg_41 sz_41 (et (gS rfl g0) rfl) (by rw [List.size_toArray]; exact htl) (at1B k2)) ?_
                                                    refine l_eff (e_callV cal_162 (aC (et g0 rfl) aN) (engine_fees hF (ht.mono hL0))) (fun v72 w72 h72 => ?_)
                                                    obtain ⟨rfl, u72⟩ := h72
                                                    replace G := G.tr (Go.ofUp hF u72)
                                                    replace hF := hF.up u72
                                                    replace k2 := k2.up u72
                                                    replace k3 := k3.up u72
                                                    replace hV := hV.up u72
                                                    replace U := U.tr u72
                                                    refine l_step (y_moveV (et g0 rfl)) ?_
                                                    refine l_step (y_ext (et g0 rfl) rfl) ?_
                                                    refine l_step (y_ext (et (gS rfl g0) rfl) rfl) ?_
                                                    refine l_eff (e_alloc zr_65) (fun v73 w73 h73 => ?_)
                                                    obtain ⟨b73, rfl, n73⟩ := h73
                                                    have d2_73 : b2 < b73 := Nat.lt_of_lt_of_le k2.lt n73.fresh
                                                    have d3_73 : b3 < b73 := Nat.lt_of_lt_of_le k3.lt n73.fresh
                                                    have f73 : w.heap.size ≤ b73 := Nat.le_trans U.size n73.fresh
                                                    have nb73 := hF.nb n73.fresh
                                                    replace G := G.tr (Go.ofUp hF n73.up)
                                                    replace hF := hF.up n73.up
                                                    replace k2 := k2.up n73.up
                                                    replace k3 := k3.up n73.up
                                                    replace hV := hV.up n73.up
                                                    replace U := U.tr n73.up
                                                    have k73 := n73.blk
                                                    refine l_eff (e_alloc zr_65) (fun v74 w74 h74 => ?_)
                                                    obtain ⟨b74, rfl, n74⟩ := h74
                                                    have d2_74 : b2 < b74 := Nat.lt_of_lt_of_le k2.lt n74.fresh
                                                    have d3_74 : b3 < b74 := Nat.lt_of_lt_of_le k3.lt n74.fresh
                                                    have d73_74 : b73 < b74 := Nat.lt_of_lt_of_le k73.lt n74.fresh
                                                    have f74 : w.heap.size ≤ b74 := Nat.le_trans U.size n74.fresh
                                                    have nb74 := hF.nb n74.fresh
                                                    replace G := G.tr (Go.ofUp hF n74.up)
                                                    replace hF := hF.up n74.up
                                                    replace k2 := k2.up n74.up
                                                    replace k3 := k3.up n74.up
                                                    replace k73 := k73.up n74.up
                                                    replace hV := hV.up n74.up
                                                    replace U := U.tr n74.up
                                                    have k74 := n74.blk
                                                    exact (by
                                                      refine l_effN (e_store sz_65 (et (gS rfl g0) rfl) (cellsV (et (gS rfl (gS rfl (gS rfl g0))) rfl) rfl) rfl (by exact one_uL _) k73 (by exact Nat.le_of_ble_eq_true rfl)) (fun v75 w75 h75 => ?_)
                                                      obtain ⟨rfl, x75⟩ := h75
                                                      replace k2 := k2.ch x75.ch (by omega)
                                                      replace k3 := k3.ch x75.ch (by omega)
                                                      replace k74 := k74.ch x75.ch (by omega)
                                                      replace hV := hV.ch x75.ch (by first | omega | (intro b hb; first | (subst hb; exact ⟨hnw _ (by omega), fun hh => by have := hfz.lt hh; omega⟩) | (rcases hb with hb | hb <;> (subst hb; exact ⟨hnw _ (by omega), fun hh => by have := hfz.lt hh; omega⟩))))
                                                      replace k73 := x75.blk.full rfl
                                                      replace G := G.wr x75 (by first | exact .inr f73 | omega | (simp; omega)) nb73
                                                      replace hF := G.fz
                                                      replace U := U.st x75 f73
                                                      refine l_effN (e_store sz_65 (et g0 rfl) (cellsV (et (gS rfl (gS rfl g0)) rfl) rfl) rfl (by exact one_uL _) k74 (by exact Nat.le_of_ble_eq_true rfl)) (fun v76 w76 h76 => ?_)
                                                      obtain ⟨rfl, x76⟩ := h76
                                                      replace k2 := k2.ch x76.ch (by omega)
                                                      replace k3 := k3.ch x76.ch (by omega)
                                                      replace k73 := k73.ch x76.ch (by omega)
                                                      replace hV := hV.ch x76.ch (by first | omega | (intro b hb; first | (subst hb; exact ⟨hnw _ (by omega), fun hh => by have := hfz.lt hh; omega⟩) | (rcases hb with hb | hb <;> (subst hb; exact ⟨hnw _ (by omega), fun hh => by have := hfz.lt hh; omega⟩))))
                                                      replace k74 := x76.blk.full rfl
                                                      replace G := G.wr x76 (by first | exact .inr f74 | omega | (simp; omega)) nb74
                                                      replace hF := G.fz
                                                      replace U := U.st x76 f74
                                                      refine l_nil ?_
                                                      refine hK71 _ _ ?_
                                                      refine fg5 0 3 5 7 8 (gS rfl (gS rfl (gS rfl (gS rfl (gS rfl (gS rfl (gS rfl (gS rfl (gS rfl g0))))))))) (gS rfl (gS rfl (gS rfl (gS rfl (gS rfl (gS rfl (gS rfl (gS rfl g0)))))))) (gS rfl (gS rfl (gS rfl (gS rfl (gS rfl (gS rfl (gS rfl g0))))))) (gS rfl g0) g0 (fun g => ?_)
                                                      refine c_seq (fun K77 hK77 => ?_)
                                                      exact (by
                                                        refine c_region ?_
                                                        refine l_step (y_moveV (et (gS rfl (gS rfl (gS rfl (gS rfl g0)))) rfl)) ?_
                                                        refine l_step (y_nil (et g0 rfl)) ?_
                                                        refine l_step (y_fld fld_75_6 (et g0 rfl)) ?_
                                                        refine l_step (y_fld fld_31_6 (et g0 rfl)) ?_
                                                        refine l_step (y_loadR agg_28 sz_28 (et g0 rfl) (by rw [length_bL, length_be]) (at1R (hV.kC.rowO eBf rfl))) ?_
                                                        refine l_eff (e_callV cal_83 (aC (et g0 rfl) aN) (fromBytes_spec _ _)) (fun v78 w78 h78 => ?_)
                                                        obtain ⟨rfl, u78⟩ := h78
                                                        replace G := G.tr (Go.ofUp hF u78)
                                                        replace hF := hF.up u78
                                                        replace k2 := k2.up u78
                                                        replace k3 := k3.up u78
                                                        replace k73 := k73.up u78
                                                        replace k74 := k74.up u78
                                                        replace hV := hV.up u78
                                                        replace U := U.tr u78
                                                        refine l_eff (e_alloc zr_65) (fun v79 w79 h79 => ?_)
                                                        obtain ⟨b79, rfl, n79⟩ := h79
                                                        have d2_79 : b2 < b79 := Nat.lt_of_lt_of_le k2.lt n79.fresh
                                                        have d3_79 : b3 < b79 := Nat.lt_of_lt_of_le k3.lt n79.fresh
                                                        have d73_79 : b73 < b79 := Nat.lt_of_lt_of_le k73.lt n79.fresh
                                                        have d74_79 : b74 < b79 := Nat.lt_of_lt_of_le k74.lt n79.fresh
                                                        have f79 : w.heap.size ≤ b79 := Nat.le_trans U.size n79.fresh
                                                        have nb79 := hF.nb n79.fresh
                                                        replace G := G.tr (Go.ofUp hF n79.up)
                                                        replace hF := hF.up n79.up
                                                        replace k2 := k2.up n79.up
                                                        replace k3 := k3.up n79.up
                                                        replace k73 := k73.up n79.up
                                                        replace k74 := k74.up n79.up
                                                        replace hV := hV.up n79.up
                                                        replace U := U.tr n79.up
                                                        have k79 := n79.blk
                                                        exact (by
                                                          refine l_effN (e_store sz_65 (et g0 rfl) (cellsV (et (gS rfl g0) rfl) rfl) rfl (by exact one_uL _) k79 (by exact Nat.le_of_ble_eq_true rfl)) (fun v80 w80 h80 => ?_)
                                                          obtain ⟨rfl, x80⟩ := h80
                                                          replace k2 := k2.ch x80.ch (by omega)
                                                          replace k3 := k3.ch x80.ch (by omega)
                                                          replace k73 := k73.ch x80.ch (by omega)
                                                          replace k74 := k74.ch x80.ch (by omega)
                                                          replace hV := hV.ch x80.ch (by first | omega | (intro b hb; first | (subst hb; exact ⟨hnw _ (by omega), fun hh => by have := hfz.lt hh; omega⟩) | (rcases hb with hb | hb <;> (subst hb; exact ⟨hnw _ (by omega), fun hh => by have := hfz.lt hh; omega⟩))))
                                                          replace k79 := x80.blk.full rfl
                                                          replace G := G.wr x80 (by first | exact .inr f79 | omega | (simp; omega)) nb79
                                                          replace hF := G.fz
                                                          replace U := U.st x80 f79
                                                          refine l_nil ?_
                                                          refine hK77 _ _ ?_
                                                          refine fg6 0 3 5 7 8 9 (gS rfl (gS rfl (gS rfl (gS rfl (gS rfl (gS rfl (gS rfl (gS rfl (gS rfl (gS rfl (gS rfl g0))))))))))) (gS rfl (gS rfl (gS rfl (gS rfl (gS rfl (gS rfl (gS rfl (gS rfl (gS rfl (gS rfl g0)))))))))) (gS rfl (gS rfl (gS rfl (gS rfl (gS rfl (gS rfl (gS rfl (gS rfl (gS rfl g0))))))))) (gS rfl (gS rfl (gS rfl (gS rfl (gS rfl (gS rfl (gS rfl (gS rfl g0)))))))) (gS rfl (gS rfl (gS rfl (gS rfl (gS rfl (gS rfl (gS rfl g0))))))) g0 (fun g => ?_)
                                                          refine c_seq (fun K81 hK81 => ?_)
                                                          exact (by
                                                            refine c_region ?_
                                                            refine l_step (y_fld fld_41_4 (et (gS rfl (gS rfl (gS rfl (gS rfl g0)))) rfl)) ?_
                                                            refine l_step (y_load1 one_26 (et g0 rfl) (at1 (k2.cell (rT3 2 _ rfl)))) ?_
                                                            refine l_step (y_bld (bC (et g0 rfl) bN) (bld65_w _ tok.gas)) ?_
                                                            refine l_step (y_loadB agg_65 sz_65 (et (gS rfl (gS rfl (gS rfl (gS rfl (gS rfl g0))))) rfl) rfl (at1B k73)) ?_
                                                            refine l_eff (e_callV cal_163 (aC (et (gS rfl g0) rfl) (aC (et g0 rfl) aN)) (mulOver_spec _ _ _ hgW hM)) (fun v82 w82 h82 => ?_)
                                                            obtain ⟨rfl, u82⟩ := h82
                                                            replace G := G.tr (Go.ofUp hF u82)
                                                            replace hF := hF.up u82
                                                            replace k2 := k2.up u82
                                                            replace k3 := k3.up u82
                                                            replace k73 := k73.up u82
                                                            replace k74 := k74.up u82
                                                            replace k79 := k79.up u82
                                                            replace hV := hV.up u82
                                                            replace U := U.tr u82
                                                            refine l_step (y_moveV (et g0 rfl)) ?_
                                                            refine l_step (y_ext (et g0 rfl) rfl) ?_
                                                            refine l_step (y_ext (et (gS rfl g0) rfl) rfl) ?_
                                                            refine l_eff (e_alloc zr_65) (fun v83 w83 h83 => ?_)
                                                            obtain ⟨b83, rfl, n83⟩ := h83
                                                            have d2_83 : b2 < b83 := Nat.lt_of_lt_of_le k2.lt n83.fresh
                                                            have d3_83 : b3 < b83 := Nat.lt_of_lt_of_le k3.lt n83.fresh
                                                            have d73_83 : b73 < b83 := Nat.lt_of_lt_of_le k73.lt n83.fresh
                                                            have d74_83 : b74 < b83 := Nat.lt_of_lt_of_le k74.lt n83.fresh
                                                            have d79_83 : b79 < b83 := Nat.lt_of_lt_of_le k79.lt n83.fresh
                                                            have f83 : w.heap.size ≤ b83 := Nat.le_trans U.size n83.fresh
                                                            have nb83 := hF.nb n83.fresh
                                                            replace G := G.tr (Go.ofUp hF n83.up)
                                                            replace hF := hF.up n83.up
                                                            replace k2 := k2.up n83.up
                                                            replace k3 := k3.up n83.up
                                                            replace k73 := k73.up n83.up
                                                            replace k74 := k74.up n83.up
                                                            replace k79 := k79.up n83.up
                                                            replace hV := hV.up n83.up
                                                            replace U := U.tr n83.up
                                                            have k83 := n83.blk
                                                            exact (by
                                                              refine l_effN (e_store sz_65 (et g0 rfl) (cellsV (et (gS rfl (gS rfl g0)) rfl) rfl) rfl (by exact one_uL _) k83 (by exact Nat.le_of_ble_eq_true rfl)) (fun v84 w84 h84 => ?_)
                                                              obtain ⟨rfl, x84⟩ := h84
                                                              replace k2 := k2.ch x84.ch (by omega)
                                                              replace k3 := k3.ch x84.ch (by omega)
                                                              replace k73 := k73.ch x84.ch (by omega)
                                                              replace k74 := k74.ch x84.ch (by omega)
                                                              replace k79 := k79.ch x84.ch (by omega)
                                                              replace hV := hV.ch x84.ch (by first | omega | (intro b hb; first | (subst hb; exact ⟨hnw _ (by omega), fun hh => by have := hfz.lt hh; omega⟩) | (rcases hb with hb | hb <;> (subst hb; exact ⟨hnw _ (by omega), fun hh => by have := hfz.lt hh; omega⟩))))
                                                              replace k83 := x84.blk.full rfl
                                                              replace G := G.wr x84 (by first | exact .inr f83 | omega | (simp; omega)) nb83
                                                              replace hF := G.fz
                                                              replace U := U.st x84 f83
                                                              refine l_step (y_assignV (et (gS rfl g0) rfl)) ?_
                                                              refine l_nil ?_
                                                              refine hK81 _ _ ?_
                                                              refine fg8 0 3 5 7 8 9 10 11 (gS rfl (gS rfl (gS rfl (gS rfl (gS rfl (gS rfl (gS rfl (gS rfl (gS rfl (gS rfl (gS rfl (gS rfl (gS rfl (gS rfl (gS rfl g0))))))))))))))) (gS rfl (gS rfl (gS rfl (gS rfl (gS rfl (gS rfl (gS rfl (gS rfl (gS rfl (gS rfl (gS rfl (gS rfl (gS rfl (gS rfl g0)))))))))))))) (gS rfl (gS rfl (gS rfl (gS rfl (gS rfl (gS rfl (gS rfl (gS rfl (gS rfl (gS rfl (gS rfl (gS rfl (gS rfl g0))))))))))))) (gS rfl (gS rfl (gS rfl (gS rfl (gS rfl (gS rfl (gS rfl (gS rfl (gS rfl (gS rfl (gS rfl (gS rfl g0)))))))))))) (gS rfl (gS rfl (gS rfl (gS rfl (gS rfl (gS rfl (gS rfl (gS rfl (gS rfl (gS rfl (gS rfl g0))))))))))) (gS rfl (gS rfl (gS rfl (gS rfl (gS rfl (gS rfl (gS rfl (gS rfl (gS rfl (gS rfl g0)))))))))) (gS rfl g0) g0 (fun g => ?_)
                                                              refine c_seq (fun K85 hK85 => ?_)
                                                              exact (by
                                                                refine fgv8 0 3 5 7 8 9 10 11 (gS rfl (gS rfl (gS rfl (gS rfl (gS rfl (gS rfl (gS rfl g0))))))) (gS rfl (gS rfl (gS rfl (gS rfl (gS rfl (gS rfl g0)))))) (gS rfl (gS rfl (gS rfl (gS rfl (gS rfl g0))))) (gS rfl (gS rfl (gS rfl (gS rfl g0)))) (gS rfl (gS rfl (gS rfl g0))) (gS rfl (gS rfl g0)) (gS rfl g0) g0 (fun g z0 z3 z5 z7 z8 z9 z10 z11 e0 e3 e5 e7 e8 e9 e10 e11 => ?_)
                                                                refine c_drawJ (fun s_ w_ => ∃ (g : Nat → Value) (b87 : Nat), s_ = (upd (upd (upd (upd (upd (upd (upd (upd (upd g 0 z0) 3 z3) 5 z5) 7 z7) 8 z8) 9 z9) 11 z11) 12 (.pointer (some ⟨b87, 0, none⟩))) 13 (.bool (decide (W256 ≤ T.gas * feeM T % W256 + T.value)))) ∧ Ch (fun _ => False) w84 w_ ∧ w84.heap.size ≤ b87 ∧ Blk w_ b87 ((wL ((T.gas * feeM T % W256 + T.value) % W256)).toArray)) Up 11 (.pure 0 (.pure 1 (.pure 2 (.two 3 (.two 4 (.pure 5 (.pure 6 (.pure 7 (.eff 8 (.eff 9 (.pure 10 .fin)))))) 8 (.eff 4 (.pure 5 (.pure 6 (.pure 7 (.eff 9 (.pure 10 .fin))))))) 8 (.eff 3 (.eff 4 (.pure 5 (.pure 6 (.pure 7 (.eff 9 (.pure 10 .fin))))))))))) (by kernel_rfl) (fun w88 hu => ⟨Up.refl _, ?_⟩) ?_
                                                                · skip
                                                                  subst e0 e3 e5 e7 e8 e9 e10 e11
                                                                  replace G := G.tr (Go.ofUp hF hu)
                                                                  replace hF := hF.up hu
                                                                  replace k2 := k2.up hu
                                                                  replace k3 := k3.up hu
                                                                  replace k73 := k73.up hu
                                                                  replace k74 := k74.up hu
                                                                  replace k79 := k79.up hu
                                                                  replace k83 := k83.up hu
                                                                  replace hV := hV.up hu
                                                                  replace U := U.tr hu
                                                                  have SU := Up.refl w88
                                                                  have V86 : Ch (fun _ => False) w84 w88 := hu
                                                                  refine t_step (by exact rfl) (y_loadB agg_65 sz_65 (et (gS rfl g0) rfl) rfl (atSB k83)) ?_
                                                                  refine t_step (by exact rfl) (y_fld fld_41_6 (et (gS rfl (gS rfl (gS rfl (gS rfl (gS rfl (gS rfl (gS rfl g0))))))) rfl)) ?_
                                                                  refine t_step (by exact rfl) (y_loadR agg_28 sz_28 (et g0 rfl) (by rw [length_bL, length_be]) (atSR (k2.row rT5))) ?_
                                                                  refine t_two ?_ ?_
                                                                  · skip
                                                                    refine t_eff (by exact rfl) (e_callV cal_83 (aC (et g0 rfl) aN) (fromBytes_spec _ _)) (fun v89 w89 h89 => ?_)
                                                                    obtain ⟨rfl, u89⟩ := h89
                                                                    replace G := G.tr (Go.ofUp hF u89)
                                                                    replace hF := hF.up u89
                                                                    replace k2 := k2.up u89
                                                                    replace k3 := k3.up u89
                                                                    replace k73 := k73.up u89
                                                                    replace k74 := k74.up u89
                                                                    replace k79 := k79.up u89
                                                                    replace k83 := k83.up u89
                                                                    replace hV := hV.up u89
                                                                    replace U := U.tr u89
                                                                    replace V86 := V86.tr u89
                                                                    refine ⟨.inr (SU.tr u89), ?_⟩
                                                                    replace SU := SU.tr u89
                                                                    refine t_two ?_ ?_
                                                                    · skip
                                                                      refine t_eff (by exact rfl) (e_callV cal_164 (aC (et (gS rfl (gS rfl (gS rfl g0))) rfl) (aC (et g0 rfl) aN)) (addOver_spec _ _ _ (Nat.mod_lt _ (by decide)) tok.value)) (fun v90 w90 h90 => ?_)
                                                                      obtain ⟨rfl, u90⟩ := h90
                                                                      replace G := G.tr (Go.ofUp hF u90)
                                                                      replace hF := hF.up u90
                                                                      replace k2 := k2.up u90
                                                                      replace k3 := k3.up u90
                                                                      replace k73 := k73.up u90
                                                                      replace k74 := k74.up u90
                                                                      replace k79 := k79.up u90
                                                                      replace k83 := k83.up u90
                                                                      replace hV := hV.up u90
                                                                      replace U := U.tr u90
                                                                      replace V86 := V86.tr u90
                                                                      refine ⟨.inr (SU.tr u90), ?_⟩
                                                                      replace SU := SU.tr u90
                                                                      refine t_step (by exact rfl) (y_moveV (et g0 rfl)) ?_
                                                                      refine t_step (by exact rfl) (y_ext (et g0 rfl) rfl) ?_
                                                                      refine t_step (by exact rfl) (y_ext (et (gS rfl g0) rfl) rfl) ?_
                                                                      refine t_one ?_
                                                                      refine t_eff (by exact rfl) (e_alloc zr_65) (fun v91 w91 h91 => ?_)
                                                                      obtain ⟨b91, rfl, n91⟩ := h91
                                                                      have d2_91 : b2 < b91 := Nat.lt_of_lt_of_le k2.lt n91.fresh
                                                                      have d3_91 : b3 < b91 := Nat.lt_of_lt_of_le k3.lt n91.fresh
                                                                      have d73_91 : b73 < b91 := Nat.lt_of_lt_of_le k73.lt n91.fresh
                                                                      have d74_91 : b74 < b91 := Nat.lt_of_lt_of_le k74.lt n91.fresh
                                                                      have d79_91 : b79 < b91 := Nat.lt_of_lt_of_le k79.lt n91.fresh
                                                                      have d83_91 : b83 < b91 := Nat.lt_of_lt_of_le k83.lt n91.fresh
                                                                      have f91 : w.heap.size ≤ b91 := Nat.le_trans U.size n91.fresh
                                                                      have nb91 := hF.nb n91.fresh
                                                                      have fS91 := Nat.le_trans SU.size n91.fresh
                                                                      have fV86_91 := Nat.le_trans V86.size n91.fresh
                                                                      replace G := G.tr (Go.ofUp hF n91.up)
                                                                      replace hF := hF.up n91.up
                                                                      replace k2 := k2.up n91.up
                                                                      replace k3 := k3.up n91.up
                                                                      replace k73 := k73.up n91.up
                                                                      replace k74 := k74.up n91.up
                                                                      replace k79 := k79.up n91.up
                                                                      replace k83 := k83.up n91.up
                                                                      replace hV := hV.up n91.up
                                                                      replace U := U.tr n91.up
                                                                      replace V86 := V86.tr n91.up
                                                                      have k91 := n91.blk
                                                                      refine ⟨.inr (SU.tr n91.up), ?_⟩
                                                                      replace SU := SU.tr n91.up
                                                                      refine t_one ?_
                                                                      refine t_effN (by exact rfl) (e_store sz_65 (et g0 rfl) (cellsV (et (gS rfl (gS rfl g0)) rfl) rfl) rfl (by exact one_uL _) k91 (by exact Nat.le_of_ble_eq_true rfl)) (fun v92 w92 h92 => ?_)
                                                                      obtain ⟨rfl, x92⟩ := h92
                                                                      replace k2 := k2.ch x92.ch (by omega)
                                                                      replace k3 := k3.ch x92.ch (by omega)
                                                                      replace k73 := k73.ch x92.ch (by omega)
                                                                      replace k74 := k74.ch x92.ch (by omega)
                                                                      replace k79 := k79.ch x92.ch (by omega)
                                                                      replace k83 := k83.ch x92.ch (by omega)
                                                                      replace hV := hV.ch x92.ch (by first | omega | (intro b hb; first | (subst hb; exact ⟨hnw _ (by omega), fun hh => by have := hfz.lt hh; omega⟩) | (rcases hb with hb | hb <;> (subst hb; exact ⟨hnw _ (by omega), fun hh => by have := hfz.lt hh; omega⟩))))
                                                                      replace k91 := x92.blk.full rfl
                                                                      replace G := G.wr x92 (by first | exact .inr f91 | omega | (simp; omega)) nb91
                                                                      replace hF := G.fz
                                                                      replace U := U.st x92 f91
                                                                      replace V86 := V86.st x92 (by omega)
                                                                      refine ⟨.inr (SU.st x92 (by omega)), ?_⟩
                                                                      replace SU := SU.st x92 (by omega)
                                                                      refine t_step (by exact rfl) (y_assignV (et (gS rfl g0) rfl)) ?_
                                                                      refine tl9 0 3 5 7 8 9 11 12 13 (gS rfl (gS rfl (gS rfl (gS rfl (gS rfl (gS rfl (gS rfl (gS rfl (gS rfl (gS rfl (gS rfl (gS rfl (gS rfl (gS rfl (gS rfl (gS rfl (gS rfl g0))))))))))))))))) (gS rfl (gS rfl (gS rfl (gS rfl (gS rfl (gS rfl (gS rfl (gS rfl (gS rfl (gS rfl (gS rfl (gS rfl (gS rfl (gS rfl (gS rfl (gS rfl g0)))))))))))))))) (gS rfl (gS rfl (gS rfl (gS rfl (gS rfl (gS rfl (gS rfl (gS rfl (gS rfl (gS rfl (gS rfl (gS rfl (gS rfl (gS rfl (gS rfl g0))))))))))))))) (gS rfl (gS rfl (gS rfl (gS rfl (gS rfl (gS rfl (gS rfl (gS rfl (gS rfl (gS rfl (gS rfl (gS rfl (gS rfl (gS rfl g0)))))))))))))) (gS rfl (gS rfl (gS rfl (gS rfl (gS rfl (gS rfl (gS rfl (gS rfl (gS rfl (gS rfl (gS rfl (gS rfl (gS rfl g0))))))))))))) (gS rfl (gS rfl (gS rfl (gS rfl (gS rfl (gS rfl (gS rfl (gS rfl (gS rfl (gS rfl (gS rfl (gS rfl g0)))))))))))) (gS rfl (gS rfl (gS rfl (gS rfl (gS rfl (gS rfl (gS rfl (gS rfl (gS rfl (gS rfl g0)))))))))) (gS rfl g0) g0 (fun g => ?_)
                                                                      exact ⟨g, _, rfl, V86, Nat.le_trans hu.size fS91, k91⟩
                                                                    · skip
                                                                      refine t_eff (by exact rfl) (e_alloc zr_65) (fun v93 w93 h93 => ?_)
                                                                      obtain ⟨b93, rfl, n93⟩ := h93
                                                                      have d2_93 : b2 < b93 := Nat.lt_of_lt_of_le k2.lt n93.fresh
                                                                      have d3_93 : b3 < b93 := Nat.lt_of_lt_of_le k3.lt n93.fresh
                                                                      have d73_93 : b73 < b93 := Nat.lt_of_lt_of_le k73.lt n93.fresh
                                                                      have d74_93 : b74 < b93 := Nat.lt_of_lt_of_le k74.lt n93.fresh
                                                                      have d79_93 : b79 < b93 := Nat.lt_of_lt_of_le k79.lt n93.fresh
                                                                      have d83_93 : b83 < b93 := Nat.lt_of_lt_of_le k83.lt n93.fresh
                                                                      have f93 : w.heap.size ≤ b93 := Nat.le_trans U.size n93.fresh
                                                                      have nb93 := hF.nb n93.fresh
                                                                      have fS93 := Nat.le_trans SU.size n93.fresh
                                                                      have fV86_93 := Nat.le_trans V86.size n93.fresh
                                                                      replace G := G.tr (Go.ofUp hF n93.up)
                                                                      replace hF := hF.up n93.up
                                                                      replace k2 := k2.up n93.up
                                                                      replace k3 := k3.up n93.up
                                                                      replace k73 := k73.up n93.up
                                                                      replace k74 := k74.up n93.up
                                                                      replace k79 := k79.up n93.up
                                                                      replace k83 := k83.up n93.up
                                                                      replace hV := hV.up n93.up
                                                                      replace U := U.tr n93.up
                                                                      replace V86 := V86.tr n93.up
                                                                      have k93 := n93.blk
                                                                      refine ⟨.inr (SU.tr n93.up), ?_⟩
                                                                      replace SU := SU.tr n93.up
                                                                      refine t_one ?_
                                                                      refine t_eff (by exact rfl) (e_callV cal_164 (aC (et (gS rfl (gS rfl (gS rfl (gS rfl g0)))) rfl) (aC (et (gS rfl g0) rfl) aN)) (addOver_spec _ _ _ (Nat.mod_lt _ (by decide)) tok.value)) (fun v94 w94 h94 => ?_)
                                                                      obtain ⟨rfl, u94⟩ := h94
                                                                      replace G := G.tr (Go.ofUp hF u94)
                                                                      replace hF := hF.up u94
                                                                      replace k2 := k2.up u94
                                                                      replace k3 := k3.up u94
                                                                      replace k73 := k73.up u94
                                                                      replace k74 := k74.up u94
                                                                      replace k79 := k79.up u94
                                                                      replace k83 := k83.up u94
                                                                      replace k93 := k93.up u94
                                                                      replace hV := hV.up u94
                                                                      replace U := U.tr u94
                                                                      replace V86 := V86.tr u94
                                                                      refine ⟨.inr (SU.tr u94), ?_⟩
                                                                      replace SU := SU.tr u94
                                                                      refine t_step (by exact rfl) (y_moveV (et g0 rfl)) ?_
                                                                      refine t_step (by exact rfl) (y_ext (et g0 rfl) rfl) ?_
                                                                      refine t_step (by exact rfl) (y_ext (et (gS rfl g0) rfl) rfl) ?_
                                                                      refine t_one ?_
                                                                      refine t_effN (by exact rfl) (e_store sz_65 (et (gS rfl (gS rfl (gS rfl (gS rfl g0)))) rfl) (cellsV (et (gS rfl g0) rfl) rfl) rfl (by exact one_uL _) k93 (by exact Nat.le_of_ble_eq_true rfl)) (fun v95 w95 h95 => ?_)
                                                                      obtain ⟨rfl, x95⟩ := h95
                                                                      replace k2 := k2.ch x95.ch (by omega)
                                                                      replace k3 := k3.ch x95.ch (by omega)
                                                                      replace k73 := k73.ch x95.ch (by omega)
                                                                      replace k74 := k74.ch x95.ch (by omega)
                                                                      replace k79 := k79.ch x95.ch (by omega)
                                                                      replace k83 := k83.ch x95.ch (by omega)
                                                                      replace hV := hV.ch x95.ch (by first | omega | (intro b hb; first | (subst hb; exact ⟨hnw _ (by omega), fun hh => by have := hfz.lt hh; omega⟩) | (rcases hb with hb | hb <;> (subst hb; exact ⟨hnw _ (by omega), fun hh => by have := hfz.lt hh; omega⟩))))
                                                                      replace k93 := x95.blk.full rfl
                                                                      replace G := G.wr x95 (by first | exact .inr f93 | omega | (simp; omega)) nb93
                                                                      replace hF := G.fz
                                                                      replace U := U.st x95 f93
                                                                      replace V86 := V86.st x95 (by omega)
                                                                      refine ⟨.inr (SU.st x95 (by omega)), ?_⟩
                                                                      replace SU := SU.st x95 (by omega)
                                                                      refine t_step (by exact rfl) (y_assignV (et g0 rfl)) ?_
                                                                      refine tl9 0 3 5 7 8 9 11 12 13 (gS rfl (gS rfl (gS rfl (gS rfl (gS rfl (gS rfl (gS rfl (gS rfl (gS rfl (gS rfl (gS rfl (gS rfl (gS rfl (gS rfl (gS rfl (gS rfl (gS rfl g0))))))))))))))))) (gS rfl (gS rfl (gS rfl (gS rfl (gS rfl (gS rfl (gS rfl (gS rfl (gS rfl (gS rfl (gS rfl (gS rfl (gS rfl (gS rfl (gS rfl (gS rfl g0)))))))))))))))) (gS rfl (gS rfl (gS rfl (gS rfl (gS rfl (gS rfl (gS rfl (gS rfl (gS rfl (gS rfl (gS rfl (gS rfl (gS rfl (gS rfl (gS rfl g0))))))))))))))) (gS rfl (gS rfl (gS rfl (gS rfl (gS rfl (gS rfl (gS rfl (gS rfl (gS rfl (gS rfl (gS rfl (gS rfl (gS rfl (gS rfl g0)))))))))))))) (gS rfl (gS rfl (gS rfl (gS rfl (gS rfl (gS rfl (gS rfl (gS rfl (gS rfl (gS rfl (gS rfl (gS rfl (gS rfl g0))))))))))))) (gS rfl (gS rfl (gS rfl (gS rfl (gS rfl (gS rfl (gS rfl (gS rfl (gS rfl (gS rfl (gS rfl (gS rfl g0)))))))))))) (gS rfl (gS rfl (gS rfl (gS rfl (gS rfl (gS rfl (gS rfl (gS rfl (gS rfl (gS rfl g0)))))))))) (gS rfl (gS rfl (gS rfl (gS rfl (gS rfl g0))))) g0 (fun g => ?_)
                                                                      exact ⟨g, _, rfl, V86, Nat.le_trans hu.size fS93, k93⟩
                                                                  · skip
                                                                    refine t_eff (by exact rfl) (e_alloc zr_65) (fun v96 w96 h96 => ?_)
                                                                    obtain ⟨b96, rfl, n96⟩ := h96
                                                                    have d2_96 : b2 < b96 := Nat.lt_of_lt_of_le k2.lt n96.fresh
                                                                    have d3_96 : b3 < b96 := Nat.lt_of_lt_of_le k3.lt n96.fresh
                                                                    have d73_96 : b73 < b96 := Nat.lt_of_lt_of_le k73.lt n96.fresh
                                                                    have d74_96 : b74 < b96 := Nat.lt_of_lt_of_le k74.lt n96.fresh
                                                                    have d79_96 : b79 < b96 := Nat.lt_of_lt_of_le k79.lt n96.fresh
                                                                    have d83_96 : b83 < b96 := Nat.lt_of_lt_of_le k83.lt n96.fresh
                                                                    have f96 : w.heap.size ≤ b96 := Nat.le_trans U.size n96.fresh
                                                                    have nb96 := hF.nb n96.fresh
                                                                    have fS96 := Nat.le_trans SU.size n96.fresh
                                                                    have fV86_96 := Nat.le_trans V86.size n96.fresh
                                                                    replace G := G.tr (Go.ofUp hF n96.up)
                                                                    replace hF := hF.up n96.up
                                                                    replace k2 := k2.up n96.up
                                                                    replace k3 := k3.up n96.up
                                                                    replace k73 := k73.up n96.up
                                                                    replace k74 := k74.up n96.up
                                                                    replace k79 := k79.up n96.up
                                                                    replace k83 := k83.up n96.up
                                                                    replace hV := hV.up n96.up
                                                                    replace U := U.tr n96.up
                                                                    replace V86 := V86.tr n96.up
                                                                    have k96 := n96.blk
                                                                    refine ⟨.inr (SU.tr n96.up), ?_⟩
                                                                    replace SU := SU.tr n96.up
                                                                    refine t_one ?_
                                                                    refine t_eff (by exact rfl) (e_callV cal_83 (aC (et (gS rfl g0) rfl) aN) (fromBytes_spec _ _)) (fun v97 w97 h97 => ?_)
                                                                    obtain ⟨rfl, u97⟩ := h97
                                                                    replace G := G.tr (Go.ofUp hF u97)
                                                                    replace hF := hF.up u97
                                                                    replace k2 := k2.up u97
                                                                    replace k3 := k3.up u97
                                                                    replace k73 := k73.up u97
                                                                    replace k74 := k74.up u97
                                                                    replace k79 := k79.up u97
                                                                    replace k83 := k83.up u97
                                                                    replace k96 := k96.up u97
                                                                    replace hV := hV.up u97
                                                                    replace U := U.tr u97
                                                                    replace V86 := V86.tr u97
                                                                    refine ⟨.inr (SU.tr u97), ?_⟩
                                                                    replace SU := SU.tr u97
                                                                    refine t_one ?_
                                                                    refine t_eff (by exact rfl) (e_callV cal_164 (aC (et (gS rfl (gS rfl (gS rfl (gS rfl g0)))) rfl) (aC (et g0 rfl) aN)) (addOver_spec _ _ _ (Nat.mod_lt _ (by decide)) tok.value)) (fun v98 w98 h98 => ?_)
                                                                    obtain ⟨rfl, u98⟩ := h98
                                                                    replace G := G.tr (Go.ofUp hF u98)
                                                                    replace hF := hF.up u98
                                                                    replace k2 := k2.up u98
                                                                    replace k3 := k3.up u98
                                                                    replace k73 := k73.up u98
                                                                    replace k74 := k74.up u98
                                                                    replace k79 := k79.up u98
                                                                    replace k83 := k83.up u98
                                                                    replace k96 := k96.up u98
                                                                    replace hV := hV.up u98
                                                                    replace U := U.tr u98
                                                                    replace V86 := V86.tr u98
                                                                    refine ⟨.inr (SU.tr u98), ?_⟩
                                                                    replace SU := SU.tr u98
                                                                    refine t_step (by exact rfl) (y_moveV (et g0 rfl)) ?_
                                                                    refine t_step (by exact rfl) (y_ext (et g0 rfl) rfl) ?_
                                                                    refine t_step (by exact rfl) (y_ext (et (gS rfl g0) rfl) rfl) ?_
                                                                    refine t_one ?_
                                                                    refine t_effN (by exact rfl) (e_store sz_65 (et (gS rfl (gS rfl (gS rfl (gS rfl (gS rfl g0))))) rfl) (cellsV (et (gS rfl g0) rfl) rfl) rfl (by exact one_uL _) k96 (by exact Nat.le_of_ble_eq_true rfl)) (fun v99 w99 h99 => ?_)
                                                                    obtain ⟨rfl, x99⟩ := h99
                                                                    replace k2 := k2.ch x99.ch (by omega)
                                                                    replace k3 := k3.ch x99.ch (by omega)
                                                                    replace k73 := k73.ch x99.ch (by omega)
                                                                    replace k74 := k74.ch x99.ch (by omega)
                                                                    replace k79 := k79.ch x99.ch (by omega)
                                                                    replace k83 := k83.ch x99.ch (by omega)
                                                                    replace hV := hV.ch x99.ch (by first | omega | (intro b hb; first | (subst hb; exact ⟨hnw _ (by omega), fun hh => by have := hfz.lt hh; omega⟩) | (rcases hb with hb | hb <;> (subst hb; exact ⟨hnw _ (by omega), fun hh => by have := hfz.lt hh; omega⟩))))
                                                                    replace k96 := x99.blk.full rfl
                                                                    replace G := G.wr x99 (by first | exact .inr f96 | omega | (simp; omega)) nb96
                                                                    replace hF := G.fz
                                                                    replace U := U.st x99 f96
                                                                    replace V86 := V86.st x99 (by omega)
                                                                    refine ⟨.inr (SU.st x99 (by omega)), ?_⟩
                                                                    replace SU := SU.st x99 (by omega)
                                                                    refine t_step (by exact rfl) (y_assignV (et g0 rfl)) ?_
                                                                    refine tl9 0 3 5 7 8 9 11 12 13 (gS rfl (gS rfl (gS rfl (gS rfl (gS rfl (gS rfl (gS rfl (gS rfl (gS rfl (gS rfl (gS rfl (gS rfl (gS rfl (gS rfl (gS rfl (gS rfl (gS rfl g0))))))))))))))))) (gS rfl (gS rfl (gS rfl (gS rfl (gS rfl (gS rfl (gS rfl (gS rfl (gS rfl (gS rfl (gS rfl (gS rfl (gS rfl (gS rfl (gS rfl (gS rfl g0)))))))))))))))) (gS rfl (gS rfl (gS rfl (gS rfl (gS rfl (gS rfl (gS rfl (gS rfl (gS rfl (gS rfl (gS rfl (gS rfl (gS rfl (gS rfl (gS rfl g0))))))))))))))) (gS rfl (gS rfl (gS rfl (gS rfl (gS rfl (gS rfl (gS rfl (gS rfl (gS rfl (gS rfl (gS rfl (gS rfl (gS rfl (gS rfl g0)))))))))))))) (gS rfl (gS rfl (gS rfl (gS rfl (gS rfl (gS rfl (gS rfl (gS rfl (gS rfl (gS rfl (gS rfl (gS rfl (gS rfl g0))))))))))))) (gS rfl (gS rfl (gS rfl (gS rfl (gS rfl (gS rfl (gS rfl (gS rfl (gS rfl (gS rfl (gS rfl (gS rfl g0)))))))))))) (gS rfl (gS rfl (gS rfl (gS rfl (gS rfl (gS rfl (gS rfl (gS rfl (gS rfl (gS rfl g0)))))))))) (gS rfl (gS rfl (gS rfl (gS rfl (gS rfl (gS rfl g0)))))) g0 (fun g => ?_)
                                                                    exact ⟨g, _, rfl, V86, Nat.le_trans hu.size fS96, k96⟩
                                                                intro s_ w100 hJ
                                                                obtain ⟨g, b87, rfl, V86, fn87, kn87⟩ := hJ
                                                                subst e0 e3 e5 e7 e8 e9 e10 e11
                                                                have d2_87 : b2 < b87 := Nat.lt_of_lt_of_le k2.lt fn87
                                                                have d3_87 : b3 < b87 := Nat.lt_of_lt_of_le k3.lt fn87
                                                                have d73_87 : b73 < b87 := Nat.lt_of_lt_of_le k73.lt fn87
                                                                have d74_87 : b74 < b87 := Nat.lt_of_lt_of_le k74.lt fn87
                                                                have d79_87 : b79 < b87 := Nat.lt_of_lt_of_le k79.lt fn87
                                                                have d83_87 : b83 < b87 := Nat.lt_of_lt_of_le k83.lt fn87
                                                                have f87 : w.heap.size ≤ b87 := Nat.le_trans U.size fn87
                                                                have nb87 := hF.nb fn87
                                                                replace G := G.tr (Go.ofUp hF V86)
                                                                replace hF := hF.up V86
                                                                replace k2 := k2.up V86
                                                                replace k3 := k3.up V86
                                                                replace k73 := k73.up V86
                                                                replace k74 := k74.up V86
                                                                replace k79 := k79.up V86
                                                                replace k83 := k83.up V86
                                                                replace hV := hV.up V86
                                                                replace U := U.tr V86
                                                                have k87 := kn87
                                                                refine hK85 _ _ ?_
                                                                refine c_seq (fun K101 hK101 => ?_)
                                                                refine c_block (fun Q102 hQ102 => ?_)
                                                                refine c_seq (fun K103 hK103 => ?_)
                                                                exact (by
                                                                  refine c_draw Up 16 [(0, true), (1, true), (2, true), (3, true), (4, true), (5, true), (6, true), (7, true), (8, true), (9, true), (10, true), (12, true), (11, false), (13, false), (14, true), (15, true)] (by kernel_rfl) (fun w104 hu => ⟨Up.refl _, ?_⟩)
                                                                  replace G := G.tr (Go.ofUp hF hu)
                                                                  replace hF := hF.up hu
                                                                  replace k2 := k2.up hu
                                                                  replace k3 := k3.up hu
                                                                  replace k73 := k73.up hu
                                                                  replace k74 := k74.up hu
                                                                  replace k79 := k79.up hu
                                                                  replace k83 := k83.up hu
                                                                  replace k87 := k87.up hu
                                                                  replace hV := hV.up hu
                                                                  replace U := U.tr hu
                                                                  have SU := Up.refl w104
                                                                  refine p_step (by exact rfl) (y_moveV (et (gS rfl (gS rfl g0)) rfl)) ?_
                                                                  refine p_step (by exact rfl) (y_moveV (et g0 rfl)) ?_
                                                                  refine gsplitP (i := 134) g0 (fun q105 => ?_) (fun q105 => ?_)
                                                                  · skip
                                                                    have g3 : W256 ≤ T.gas * feeM T := of_decide_eq_true q105
                                                                    refine p_gskip (j := 1) (t := 134) (by exact rfl) (by exact rfl) (by exact rfl) (et g0 rfl) rfl rfl ?_
                                                                    refine p_step (by exact rfl) (y_pickT (et (gS rfl g0) rfl) rfl) ?_
                                                                    refine p_step (by exact rfl) (y_moveV (et g0 rfl)) ?_
                                                                    refine p_gskip (j := 4) (t := 137) (by exact rfl) (by exact rfl) (by exact rfl) (et g0 rfl) rfl rfl ?_
                                                                    refine p_gskip (j := 4) (t := 137) (by exact rfl) (by exact rfl) (by exact rfl) (et (gS rfl g0) rfl) rfl rfl ?_
                                                                    refine p_gskip (j := 4) (t := 137) (by exact rfl) (by exact rfl) (by exact rfl) (et (gS rfl (gS rfl g0)) rfl) rfl rfl ?_
                                                                    refine p_gskip (j := 4) (t := 137) (by exact rfl) (by exact rfl) (by exact rfl) (et (gS rfl (gS rfl (gS rfl g0))) rfl) rfl rfl ?_
                                                                    refine p_gskip (j := 4) (t := 137) (by exact rfl) (by exact rfl) (by exact rfl) (et (gS rfl (gS rfl (gS rfl (gS rfl g0)))) rfl) rfl rfl ?_
                                                                    refine p_gskip (j := 4) (t := 137) (by exact rfl) (by exact rfl) (by exact rfl) (et (gS rfl (gS rfl (gS rfl (gS rfl (gS rfl g0))))) rfl) rfl rfl ?_
                                                                    refine p_gskip (j := 4) (t := 137) (by exact rfl) (by exact rfl) (by exact rfl) (et (gS rfl (gS rfl (gS rfl (gS rfl (gS rfl (gS rfl g0)))))) rfl) rfl rfl ?_
                                                                    refine p_geskip (j := 4) (t := 137) (by exact rfl) (by exact rfl) (by exact rfl) (et (gS rfl (gS rfl (gS rfl (gS rfl (gS rfl (gS rfl (gS rfl g0))))))) rfl) rfl rfl ⟨.inr SU, ?_⟩
                                                                    refine p_geskip (j := 4) (t := 137) (by exact rfl) (by exact rfl) (by exact rfl) (et (gS rfl (gS rfl (gS rfl (gS rfl (gS rfl (gS rfl (gS rfl (gS rfl g0)))))))) rfl) rfl rfl ⟨.inr SU, ?_⟩
                                                                    refine p_step (by exact rfl) (y_pickT (et (gS rfl (gS rfl (gS rfl (gS rfl (gS rfl (gS rfl (gS rfl (gS rfl (gS rfl g0))))))))) rfl) rfl) ?_
                                                                    refine p_step (by exact rfl) (y_assignV (et g0 rfl)) ?_
                                                                    refine p_nil ?_
                                                                    refine hK103 _ _ ?_
                                                                    refine fg5 5 7 8 9 132 (gS rfl (gS rfl (gS rfl (gS rfl (gS rfl (gS rfl (gS rfl (gS rfl (gS rfl (gS rfl (gS rfl (gS rfl (gS rfl (gS rfl (gS rfl (gS rfl (gS rfl (gS rfl (gS rfl (gS rfl (gS rfl (gS rfl (gS rfl g0))))))))))))))))))))))) (gS rfl (gS rfl (gS rfl (gS rfl (gS rfl (gS rfl (gS rfl (gS rfl (gS rfl (gS rfl (gS rfl (gS rfl (gS rfl (gS rfl (gS rfl (gS rfl (gS rfl (gS rfl (gS rfl (gS rfl (gS rfl (gS rfl g0)))))))))))))))))))))) (gS rfl (gS rfl (gS rfl (gS rfl (gS rfl (gS rfl (gS rfl (gS rfl (gS rfl (gS rfl (gS rfl (gS rfl (gS rfl (gS rfl (gS rfl (gS rfl (gS rfl (gS rfl (gS rfl (gS rfl (gS rfl g0))))))))))))))))))))) (gS rfl (gS rfl (gS rfl (gS rfl (gS rfl (gS rfl (gS rfl (gS rfl (gS rfl (gS rfl (gS rfl (gS rfl (gS rfl (gS rfl (gS rfl (gS rfl (gS rfl (gS rfl (gS rfl (gS rfl g0)))))))))))))))))))) g0 (fun g => ?_)
                                                                    have e10 : (vdA s T).bal < T.gas * feeM T + T.value := by omega
                                                                    refine c_true (et g0 rfl) rfl ?_
                                                                    refine c_seq (fun K107 hK107 => ?_)
                                                                    exact (by
                                                                      refine c_draw Up 2 [(0, true), (1, true), (2, false)] (by kernel_rfl) (fun w108 hu => ⟨Up.refl _, ?_⟩)
                                                                      replace G := G.tr (Go.ofUp hF hu)
                                                                      replace hF := hF.up hu
                                                                      replace k2 := k2.up hu
                                                                      replace k3 := k3.up hu
                                                                      replace k73 := k73.up hu
                                                                      replace k74 := k74.up hu
                                                                      replace k79 := k79.up hu
                                                                      replace k83 := k83.up hu
                                                                      replace k87 := k87.up hu
                                                                      replace hV := hV.up hu
                                                                      replace U := U.tr hu
                                                                      have SU := Up.refl w108
                                                                      refine p_step (by exact rfl) (y_loadB agg_65 sz_65 (et (gS rfl (gS rfl (gS rfl (gS rfl g0)))) rfl) rfl (atSB k3)) ?_
                                                                      refine p_step (by exact rfl) y_assignC ?_
                                                                      refine p_effN (by exact rfl) (e_storeS sz_65 (et (gS rfl (gS rfl (gS rfl (gS rfl (gS rfl (gS rfl g0)))))) rfl) (cellsV (et (gS rfl g0) rfl) rfl) rfl (by exact one_uL _) k3) (fun v109 w109 h109 => ?_)
                                                                      obtain ⟨rfl, x109⟩ := h109
                                                                      replace G := G.tr (Go.ofUp hF x109)
                                                                      replace hF := hF.up x109
                                                                      replace k2 := k2.up x109
                                                                      replace k3 := k3.up x109
                                                                      replace k73 := k73.up x109
                                                                      replace k74 := k74.up x109
                                                                      replace k79 := k79.up x109
                                                                      replace k83 := k83.up x109
                                                                      replace k87 := k87.up x109
                                                                      replace hV := hV.up x109
                                                                      replace U := U.tr x109
                                                                      refine ⟨.inl rfl, ?_⟩
                                                                      refine p_nil ?_
                                                                      refine hK107 _ _ ?_
                                                                      refine fg2 5 4 (gS rfl (gS rfl (gS rfl (gS rfl (gS rfl (gS rfl g0)))))) g0 (fun g => ?_)
                                                                      refine c_ret ?_
                                                                      refine hQ102 _ _ _ (in_ret ?_)
                                                                      repeat with_reducible refine then_ret ?_
                                                                      refine ret2 rfl (res_tmp (et g0 rfl)) (res_blk agg_65 sz_65 (et (gS rfl g0) rfl) (by first | (simp only [Value.cells, hV, aV, bV, wV, wL, List.size_toArray, length_bL, length_uL, length_be, size_spl, List.length_cons, List.length_nil, List.length_replicate, Nat.zero_add, Nat.reduceAdd, Nat.reduceLeDiff, Nat.le_refl]; done) | rfl) k3) ?_
                                                                      have hvd : verdN s T = 10 := by rw [verdN, if_neg (fun h => h hph), if_neg e2, if_neg e3, if_neg e4, if_neg e5, if_neg e6, if_neg e7, if_neg e8, if_neg e9, if_pos e10]
                                                                      exact ⟨_, 0, by rw [hvd]; rfl, fun h9 => by omega, G⟩)
                                                                  · skip
                                                                    have g3 : ¬ W256 ≤ T.gas * feeM T := of_decide_eq_false q105
                                                                    have hmd9 : T.gas * feeM T % W256 = T.gas * feeM T := Nat.mod_eq_of_lt (by omega)
                                                                    refine p_gstep (j := 1) (t := 134) (by exact rfl) (by exact rfl) (by exact rfl) (et g0 rfl) rfl (y_moveV (et (gS rfl (gS rfl (gS rfl g0))) rfl)) ?_
                                                                    refine p_step (by exact rfl) (y_pickF (et (gS rfl g0) rfl) (et g0 rfl)) ?_
                                                                    refine p_step (by exact rfl) (y_moveV (et g0 rfl)) ?_
                                                                    refine gsplitP (i := 137) g0 (fun q110 => ?_) (fun q110 => ?_)
                                                                    · skip
                                                                      have g4 : W256 ≤ T.gas * feeM T + T.value := by have h9 := of_decide_eq_true q110; rw [hmd9] at h9; exact h9
                                                                      refine p_gskip (j := 4) (t := 137) (by exact rfl) (by exact rfl) (by exact rfl) (et g0 rfl) rfl rfl ?_
                                                                      refine p_gskip (j := 4) (t := 137) (by exact rfl) (by exact rfl) (by exact rfl) (et (gS rfl g0) rfl) rfl rfl ?_
                                                                      refine p_gskip (j := 4) (t := 137) (by exact rfl) (by exact rfl) (by exact rfl) (et (gS rfl (gS rfl g0)) rfl) rfl rfl ?_
                                                                      refine p_gskip (j := 4) (t := 137) (by exact rfl) (by exact rfl) (by exact rfl) (et (gS rfl (gS rfl (gS rfl g0))) rfl) rfl rfl ?_
                                                                      refine p_gskip (j := 4) (t := 137) (by exact rfl) (by exact rfl) (by exact rfl) (et (gS rfl (gS rfl (gS rfl (gS rfl g0)))) rfl) rfl rfl ?_
                                                                      refine p_gskip (j := 4) (t := 137) (by exact rfl) (by exact rfl) (by exact rfl) (et (gS rfl (gS rfl (gS rfl (gS rfl (gS rfl g0))))) rfl) rfl rfl ?_
                                                                      refine p_gskip (j := 4) (t := 137) (by exact rfl) (by exact rfl) (by exact rfl) (et (gS rfl (gS rfl (gS rfl (gS rfl (gS rfl (gS rfl g0)))))) rfl) rfl rfl ?_
                                                                      refine p_geskip (j := 4) (t := 137) (by exact rfl) (by exact rfl) (by exact rfl) (et (gS rfl (gS rfl (gS rfl (gS rfl (gS rfl (gS rfl (gS rfl g0))))))) rfl) rfl rfl ⟨.inr SU, ?_⟩
                                                                      refine p_geskip (j := 4) (t := 137) (by exact rfl) (by exact rfl) (by exact rfl) (et (gS rfl (gS rfl (gS rfl (gS rfl (gS rfl (gS rfl (gS rfl (gS rfl g0)))))))) rfl) rfl rfl ⟨.inr SU, ?_⟩
                                                                      refine p_step (by exact rfl) (y_pickT (et (gS rfl (gS rfl (gS rfl (gS rfl (gS rfl (gS rfl (gS rfl (gS rfl (gS rfl g0))))))))) rfl) rfl) ?_
                                                                      refine p_step (by exact rfl) (y_assignV (et g0 rfl)) ?_
                                                                      refine p_nil ?_
                                                                      refine hK103 _ _ ?_
                                                                      refine fg5 5 7 8 9 132 (gS rfl (gS rfl (gS rfl (gS rfl (gS rfl (gS rfl (gS rfl (gS rfl (gS rfl (gS rfl (gS rfl (gS rfl (gS rfl (gS rfl (gS rfl (gS rfl (gS rfl (gS rfl (gS rfl (gS rfl (gS rfl (gS rfl (gS rfl (gS rfl g0)))))))))))))))))))))))) (gS rfl (gS rfl (gS rfl (gS rfl (gS rfl (gS rfl (gS rfl (gS rfl (gS rfl (gS rfl (gS rfl (gS rfl (gS rfl (gS rfl (gS rfl (gS rfl (gS rfl (gS rfl (gS rfl (gS rfl (gS rfl (gS rfl (gS rfl g0))))))))))))))))))))))) (gS rfl (gS rfl (gS rfl (gS rfl (gS rfl (gS rfl (gS rfl (gS rfl (gS rfl (gS rfl (gS rfl (gS rfl (gS rfl (gS rfl (gS rfl (gS rfl (gS rfl (gS rfl (gS rfl (gS rfl (gS rfl (gS rfl g0)))))))))))))))))))))) (gS rfl (gS rfl (gS rfl (gS rfl (gS rfl (gS rfl (gS rfl (gS rfl (gS rfl (gS rfl (gS rfl (gS rfl (gS rfl (gS rfl (gS rfl (gS rfl (gS rfl (gS rfl (gS rfl (gS rfl (gS rfl g0))))))))))))))))))))) g0 (fun g => ?_)
                                                                      have e10 : (vdA s T).bal < T.gas * feeM T + T.value := by omega
                                                                      refine c_true (et g0 rfl) rfl ?_
                                                                      refine c_seq (fun K112 hK112 => ?_)
                                                                      exact (by
                                                                        refine c_draw Up 2 [(0, true), (1, true), (2, false)] (by kernel_rfl) (fun w113 hu => ⟨Up.refl _, ?_⟩)
                                                                        replace G := G.tr (Go.ofUp hF hu)
                                                                        replace hF := hF.up hu
                                                                        replace k2 := k2.up hu
                                                                        replace k3 := k3.up hu
                                                                        replace k73 := k73.up hu
                                                                        replace k74 := k74.up hu
                                                                        replace k79 := k79.up hu
                                                                        replace k83 := k83.up hu
                                                                        replace k87 := k87.up hu
                                                                        replace hV := hV.up hu
                                                                        replace U := U.tr hu
                                                                        have SU := Up.refl w113
                                                                        refine p_step (by exact rfl) (y_loadB agg_65 sz_65 (et (gS rfl (gS rfl (gS rfl (gS rfl g0)))) rfl) rfl (atSB k3)) ?_
                                                                        refine p_step (by exact rfl) y_assignC ?_
                                                                        refine p_effN (by exact rfl) (e_storeS sz_65 (et (gS rfl (gS rfl (gS rfl (gS rfl (gS rfl (gS rfl g0)))))) rfl) (cellsV (et (gS rfl g0) rfl) rfl) rfl (by exact one_uL _) k3) (fun v114 w114 h114 => ?_)
                                                                        obtain ⟨rfl, x114⟩ := h114
                                                                        replace G := G.tr (Go.ofUp hF x114)
                                                                        replace hF := hF.up x114
                                                                        replace k2 := k2.up x114
                                                                        replace k3 := k3.up x114
                                                                        replace k73 := k73.up x114
                                                                        replace k74 := k74.up x114
                                                                        replace k79 := k79.up x114
                                                                        replace k83 := k83.up x114
                                                                        replace k87 := k87.up x114
                                                                        replace hV := hV.up x114
                                                                        replace U := U.tr x114
                                                                        refine ⟨.inl rfl, ?_⟩
                                                                        refine p_nil ?_
                                                                        refine hK112 _ _ ?_
                                                                        refine fg2 5 4 (gS rfl (gS rfl (gS rfl (gS rfl (gS rfl (gS rfl g0)))))) g0 (fun g => ?_)
                                                                        refine c_ret ?_
                                                                        refine hQ102 _ _ _ (in_ret ?_)
                                                                        repeat with_reducible refine then_ret ?_
                                                                        refine ret2 rfl (res_tmp (et g0 rfl)) (res_blk agg_65 sz_65 (et (gS rfl g0) rfl) (by first | (simp only [Value.cells, hV, aV, bV, wV, wL, List.size_toArray, length_bL, length_uL, length_be, size_spl, List.length_cons, List.length_nil, List.length_replicate, Nat.zero_add, Nat.reduceAdd, Nat.reduceLeDiff, Nat.le_refl]; done) | rfl) k3) ?_
                                                                        have hvd : verdN s T = 10 := by rw [verdN, if_neg (fun h => h hph), if_neg e2, if_neg e3, if_neg e4, if_neg e5, if_neg e6, if_neg e7, if_neg e8, if_neg e9, if_pos e10]
                                                                        exact ⟨_, 0, by rw [hvd]; rfl, fun h9 => by omega, G⟩)
                                                                    · skip
                                                                      have g4 : ¬ W256 ≤ T.gas * feeM T + T.value := by have h9 := of_decide_eq_false q110; rw [hmd9] at h9; exact h9
                                                                      have hmd8 : (T.gas * feeM T % W256 + T.value) % W256 = T.gas * feeM T + T.value := by rw [hmd9]; exact Nat.mod_eq_of_lt (by omega)
                                                                      refine p_gstep (j := 4) (t := 137) (by exact rfl) (by exact rfl) (by exact rfl) (et g0 rfl) rfl (y_moveV (et (gS rfl (gS rfl (gS rfl (gS rfl (gS rfl (gS rfl (gS rfl (gS rfl (gS rfl (gS rfl (gS rfl (gS rfl (gS rfl (gS rfl (gS rfl g0))))))))))))))) rfl)) ?_
                                                                      refine p_gstep (j := 4) (t := 137) (by exact rfl) (by exact rfl) (by exact rfl) (et (gS rfl g0) rfl) rfl (y_nil (et g0 rfl)) ?_
                                                                      refine p_gstep (j := 4) (t := 137) (by exact rfl) (by exact rfl) (by exact rfl) (et (gS rfl (gS rfl g0)) rfl) rfl (y_fld fld_75_0 (et g0 rfl)) ?_
                                                                      refine p_gstep (j := 4) (t := 137) (by exact rfl) (by exact rfl) (by exact rfl) (et (gS rfl (gS rfl (gS rfl g0))) rfl) rfl (y_load1 one_59 (et g0 rfl) (atS (hV.c1 hL.pS rfl))) ?_
                                                                      refine p_gstep (j := 4) (t := 137) (by exact rfl) (by exact rfl) (by exact rfl) (et (gS rfl (gS rfl (gS rfl (gS rfl g0)))) rfl) rfl (y_fld fld_41_0 (et (gS rfl (gS rfl (gS rfl (gS rfl (gS rfl (gS rfl (gS rfl (gS rfl (gS rfl (gS rfl (gS rfl (gS rfl (gS rfl (gS rfl (gS rfl (gS rfl (gS rfl (gS rfl g0)))))))))))))))))) rfl)) ?_
                                                                      refine p_gstep (j := 4) (t := 137) (by exact rfl) (by exact rfl) (by exact rfl) (et (gS rfl (gS rfl (gS rfl (gS rfl (gS rfl g0))))) rfl) rfl (y_loadR agg_25 sz_25 (et g0 rfl) (by rw [length_bL, length_be]) (atSR (k2.row rT1))) ?_
                                                                      refine p_gstep (j := 4) (t := 137) (by exact rfl) (by exact rfl) (by exact rfl) (et (gS rfl (gS rfl (gS rfl (gS rfl (gS rfl (gS rfl g0)))))) rfl) rfl (y_loadB agg_65 sz_65 (et (gS rfl (gS rfl (gS rfl (gS rfl (gS rfl (gS rfl (gS rfl (gS rfl (gS rfl (gS rfl (gS rfl (gS rfl (gS rfl (gS rfl g0)))))))))))))) rfl) rfl (atSB k87)) ?_
                                                                      refine p_geff (j := 4) (t := 137) (by exact rfl) (by exact rfl) (by exact rfl) (et (gS rfl (gS rfl (gS rfl (gS rfl (gS rfl (gS rfl (gS rfl g0))))))) rfl) rfl (e_callV cal_99 (aC (et (gS rfl (gS rfl (gS rfl g0))) rfl) (aC (et (gS rfl g0) rfl) aN)) (hba ▸ v_balance hV ho T.frm tok.frm)) (fun v115 w115 h115 => ?_)
                                                                      obtain ⟨rfl, u115⟩ := h115
                                                                      replace G := G.tr (Go.ofUp hF u115)
                                                                      replace hF := hF.up u115
                                                                      replace k2 := k2.up u115
                                                                      replace k3 := k3.up u115
                                                                      replace k73 := k73.up u115
                                                                      replace k74 := k74.up u115
                                                                      replace k79 := k79.up u115
                                                                      replace k83 := k83.up u115
                                                                      replace k87 := k87.up u115
                                                                      replace hV := hV.up u115
                                                                      replace U := U.tr u115
                                                                      refine ⟨.inr (SU.tr u115), ?_⟩
                                                                      replace SU := SU.tr u115
                                                                      refine p_geff (j := 4) (t := 137) (by exact rfl) (by exact rfl) (by exact rfl) (et (gS rfl (gS rfl (gS rfl (gS rfl (gS rfl (gS rfl (gS rfl (gS rfl g0)))))))) rfl) rfl (e_callV cal_112 (aC (et g0 rfl) (aC (et (gS rfl g0) rfl) aN)) (lt_spec _ _ _ hbl (Nat.mod_lt _ (by decide)))) (fun v116 w116 h116 => ?_)
                                                                      obtain ⟨rfl, u116⟩ := h116
                                                                      replace G := G.tr (Go.ofUp hF u116)
                                                                      replace hF := hF.up u116
                                                                      replace k2 := k2.up u116
                                                                      replace k3 := k3.up u116
                                                                      replace k73 := k73.up u116
                                                                      replace k74 := k74.up u116
                                                                      replace k79 := k79.up u116
                                                                      replace k83 := k83.up u116
                                                                      replace k87 := k87.up u116
                                                                      replace hV := hV.up u116
                                                                      replace U := U.tr u116
                                                                      refine ⟨.inr (SU.tr u116), ?_⟩
                                                                      replace SU := SU.tr u116
                                                                      exact (by
                                                                        refine p_step (by exact rfl) (y_pickF (et (gS rfl (gS rfl (gS rfl (gS rfl (gS rfl (gS rfl (gS rfl (gS rfl (gS rfl g0))))))))) rfl) (et g0 rfl)) ?_
                                                                        refine p_step (by exact rfl) (y_assignV (et g0 rfl)) ?_
                                                                        refine p_nil ?_
                                                                        refine hK103 _ _ ?_
                                                                        refine fg5 5 7 8 9 132 (gS rfl (gS rfl (gS rfl (gS rfl (gS rfl (gS rfl (gS rfl (gS rfl (gS rfl (gS rfl (gS rfl (gS rfl (gS rfl (gS rfl (gS rfl (gS rfl (gS rfl (gS rfl (gS rfl (gS rfl (gS rfl (gS rfl (gS rfl (gS rfl g0)))))))))))))))))))))))) (gS rfl (gS rfl (gS rfl (gS rfl (gS rfl (gS rfl (gS rfl (gS rfl (gS rfl (gS rfl (gS rfl (gS rfl (gS rfl (gS rfl (gS rfl (gS rfl (gS rfl (gS rfl (gS rfl (gS rfl (gS rfl (gS rfl (gS rfl g0))))))))))))))))))))))) (gS rfl (gS rfl (gS rfl (gS rfl (gS rfl (gS rfl (gS rfl (gS rfl (gS rfl (gS rfl (gS rfl (gS rfl (gS rfl (gS rfl (gS rfl (gS rfl (gS rfl (gS rfl (gS rfl (gS rfl (gS rfl (gS rfl g0)))))))))))))))))))))) (gS rfl (gS rfl (gS rfl (gS rfl (gS rfl (gS rfl (gS rfl (gS rfl (gS rfl (gS rfl (gS rfl (gS rfl (gS rfl (gS rfl (gS rfl (gS rfl (gS rfl (gS rfl (gS rfl (gS rfl (gS rfl g0))))))))))))))))))))) g0 (fun g => ?_)
                                                                        refine c_condV (i := 132) g0 rfl (fun cB10 => ?_) (fun cB10 => ?_)
                                                                        · skip
                                                                          
                                                                          have e10 : (vdA s T).bal < T.gas * feeM T + T.value := by have h9 := of_decide_eq_true cB10; rw [hmd8] at h9; exact h9
                                                                          refine c_seq (fun K118 hK118 => ?_)
                                                                          exact (by
                                                                            refine c_draw Up 2 [(0, true), (1, true), (2, false)] (by kernel_rfl) (fun w119 hu => ⟨Up.refl _, ?_⟩)
                                                                            replace G := G.tr (Go.ofUp hF hu)
                                                                            replace hF := hF.up hu
                                                                            replace k2 := k2.up hu
                                                                            replace k3 := k3.up hu
                                                                            replace k73 := k73.up hu
                                                                            replace k74 := k74.up hu
                                                                            replace k79 := k79.up hu
                                                                            replace k83 := k83.up hu
                                                                            replace k87 := k87.up hu
                                                                            replace hV := hV.up hu
                                                                            replace U := U.tr hu
                                                                            have SU := Up.refl w119
                                                                            refine p_step (by exact rfl) (y_loadB agg_65 sz_65 (et (gS rfl (gS rfl (gS rfl (gS rfl (gS rfl g0))))) rfl) rfl (atSB k3)) ?_
                                                                            refine p_step (by exact rfl) y_assignC ?_
                                                                            refine p_effN (by exact rfl) (e_storeS sz_65 (et (gS rfl (gS rfl (gS rfl (gS rfl (gS rfl (gS rfl (gS rfl g0))))))) rfl) (cellsV (et (gS rfl g0) rfl) rfl) rfl (by exact one_uL _) k3) (fun v120 w120 h120 => ?_)
                                                                            obtain ⟨rfl, x120⟩ := h120
                                                                            replace G := G.tr (Go.ofUp hF x120)
                                                                            replace hF := hF.up x120
                                                                            replace k2 := k2.up x120
                                                                            replace k3 := k3.up x120
                                                                            replace k73 := k73.up x120
                                                                            replace k74 := k74.up x120
                                                                            replace k79 := k79.up x120
                                                                            replace k83 := k83.up x120
                                                                            replace k87 := k87.up x120
                                                                            replace hV := hV.up x120
                                                                            replace U := U.tr x120
                                                                            refine ⟨.inl rfl, ?_⟩
                                                                            refine p_nil ?_
                                                                            refine hK118 _ _ ?_
                                                                            refine fg2 5 4 (gS rfl (gS rfl (gS rfl (gS rfl (gS rfl (gS rfl (gS rfl g0))))))) g0 (fun g => ?_)
                                                                            refine c_ret ?_
                                                                            refine hQ102 _ _ _ (in_ret ?_)
                                                                            repeat with_reducible refine then_ret ?_
                                                                            refine ret2 rfl (res_tmp (et g0 rfl)) (res_blk agg_65 sz_65 (et (gS rfl g0) rfl) (by first | (simp only [Value.cells, hV, aV, bV, wV, wL, List.size_toArray, length_bL, length_uL, length_be, size_spl, List.length_cons, List.length_nil, List.length_replicate, Nat.zero_add, Nat.reduceAdd, Nat.reduceLeDiff, Nat.le_refl]; done) | rfl) k3) ?_
                                                                            have hvd : verdN s T = 10 := by rw [verdN, if_neg (fun h => h hph), if_neg e2, if_neg e3, if_neg e4, if_neg e5, if_neg e6, if_neg e7, if_neg e8, if_neg e9, if_pos e10]
                                                                            exact ⟨_, 0, by rw [hvd]; rfl, fun h9 => by omega, G⟩)
                                                                        · skip
                                                                          
                                                                          have e10 : ¬ ((vdA s T).bal < T.gas * feeM T + T.value) := by have h9 := of_decide_eq_false cB10; rw [hmd8] at h9; exact h9
                                                                          refine c_seq (fun K121 hK121 => ?_)
                                                                          exact (by
                                                                            refine c_region ?_
                                                                            refine l_step (y_loadB agg_65 sz_65 (et (gS rfl (gS rfl (gS rfl g0))) rfl) rfl (at1B k74)) ?_
                                                                            refine l_step (y_loadB agg_65 sz_65 (et (gS rfl (gS rfl (gS rfl (gS rfl (gS rfl g0))))) rfl) rfl (at1B k73)) ?_
                                                                            refine l_eff (e_callV cal_165 (aC (et (gS rfl g0) rfl) (aC (et g0 rfl) aN)) (gt_spec _ _ _ hTi hM)) (fun v122 w122 h122 => ?_)
                                                                            obtain ⟨rfl, u122⟩ := h122
                                                                            replace G := G.tr (Go.ofUp hF u122)
                                                                            replace hF := hF.up u122
                                                                            replace k2 := k2.up u122
                                                                            replace k3 := k3.up u122
                                                                            replace k73 := k73.up u122
                                                                            replace k74 := k74.up u122
                                                                            replace k79 := k79.up u122
                                                                            replace k83 := k83.up u122
                                                                            replace k87 := k87.up u122
                                                                            replace hV := hV.up u122
                                                                            replace U := U.tr u122
                                                                            refine l_step (y_assignV (et g0 rfl)) ?_
                                                                            refine l_nil ?_
                                                                            refine hK121 _ _ ?_
                                                                            refine fg5 5 7 8 9 149 (gS rfl (gS rfl (gS rfl (gS rfl (gS rfl (gS rfl (gS rfl (gS rfl (gS rfl g0))))))))) (gS rfl (gS rfl (gS rfl (gS rfl (gS rfl (gS rfl (gS rfl (gS rfl g0)))))))) (gS rfl (gS rfl (gS rfl (gS rfl (gS rfl (gS rfl (gS rfl g0))))))) (gS rfl (gS rfl (gS rfl (gS rfl (gS rfl (gS rfl g0)))))) g0 (fun g => ?_)
                                                                            refine c_condV (i := 149) g0 rfl (fun cB11 => ?_) (fun cB11 => ?_)
                                                                            · skip
                                                                              
                                                                              have e11 : feeM T < feeT T := of_decide_eq_true cB11
                                                                              refine c_seq (fun K124 hK124 => ?_)
                                                                              exact (by
                                                                                refine c_draw Up 2 [(0, true), (1, true), (2, false)] (by kernel_rfl) (fun w125 hu => ⟨Up.refl _, ?_⟩)
                                                                                replace G := G.tr (Go.ofUp hF hu)
                                                                                replace hF := hF.up hu
                                                                                replace k2 := k2.up hu
                                                                                replace k3 := k3.up hu
                                                                                replace k73 := k73.up hu
                                                                                replace k74 := k74.up hu
                                                                                replace k79 := k79.up hu
                                                                                replace k83 := k83.up hu
                                                                                replace k87 := k87.up hu
                                                                                replace hV := hV.up hu
                                                                                replace U := U.tr hu
                                                                                have SU := Up.refl w125
                                                                                refine p_step (by exact rfl) (y_loadB agg_65 sz_65 (et (gS rfl (gS rfl (gS rfl (gS rfl (gS rfl g0))))) rfl) rfl (atSB k3)) ?_
                                                                                refine p_step (by exact rfl) y_assignC ?_
                                                                                refine p_effN (by exact rfl) (e_storeS sz_65 (et (gS rfl (gS rfl (gS rfl (gS rfl (gS rfl (gS rfl (gS rfl g0))))))) rfl) (cellsV (et (gS rfl g0) rfl) rfl) rfl (by exact one_uL _) k3) (fun v126 w126 h126 => ?_)
                                                                                obtain ⟨rfl, x126⟩ := h126
                                                                                replace G := G.tr (Go.ofUp hF x126)
                                                                                replace hF := hF.up x126
                                                                                replace k2 := k2.up x126
                                                                                replace k3 := k3.up x126
                                                                                replace k73 := k73.up x126
                                                                                replace k74 := k74.up x126
                                                                                replace k79 := k79.up x126
                                                                                replace k83 := k83.up x126
                                                                                replace k87 := k87.up x126
                                                                                replace hV := hV.up x126
                                                                                replace U := U.tr x126
                                                                                refine ⟨.inl rfl, ?_⟩
                                                                                refine p_nil ?_
                                                                                refine hK124 _ _ ?_
                                                                                refine fg2 5 4 (gS rfl (gS rfl (gS rfl (gS rfl (gS rfl (gS rfl (gS rfl g0))))))) g0 (fun g => ?_)
                                                                                refine c_ret ?_
                                                                                refine hQ102 _ _ _ (in_ret ?_)
                                                                                repeat with_reducible refine then_ret ?_
                                                                                refine ret2 rfl (res_tmp (et g0 rfl)) (res_blk agg_65 sz_65 (et (gS rfl g0) rfl) (by first | (simp only [Value.cells, hV, aV, bV, wV, wL, List.size_toArray, length_bL, length_uL, length_be, size_spl, List.length_cons, List.length_nil, List.length_replicate, Nat.zero_add, Nat.reduceAdd, Nat.reduceLeDiff, Nat.le_refl]; done) | rfl) k3) ?_
                                                                                have hvd : verdN s T = 11 := by rw [verdN, if_neg (fun h => h hph), if_neg e2, if_neg e3, if_neg e4, if_neg e5, if_neg e6, if_neg e7, if_neg e8, if_neg e9, if_neg e10, if_pos e11]
                                                                                exact ⟨_, 0, by rw [hvd]; rfl, fun h9 => by omega, G⟩)
                                                                            · skip
                                                                              
                                                                              have e11 : ¬ (feeM T < feeT T) := of_decide_eq_false cB11
                                                                              refine c_seq (fun K127 hK127 => ?_)
                                                                              exact (by
                                                                                refine c_region ?_
                                                                                refine l_step (y_loadB agg_65 sz_65 (et (gS rfl (gS rfl (gS rfl (gS rfl g0)))) rfl) rfl (at1B k73)) ?_
                                                                                refine l_step (y_loadB agg_65 sz_65 (et (gS rfl (gS rfl (gS rfl g0))) rfl) rfl (at1B k79)) ?_
                                                                                refine l_eff (e_callV cal_112 (aC (et (gS rfl g0) rfl) (aC (et g0 rfl) aN)) (lt_spec _ _ _ hM eo.baseFee)) (fun v128 w128 h128 => ?_)
                                                                                obtain ⟨rfl, u128⟩ := h128
                                                                                replace G := G.tr (Go.ofUp hF u128)
                                                                                replace hF := hF.up u128
                                                                                replace k2 := k2.up u128
                                                                                replace k3 := k3.up u128
                                                                                replace k73 := k73.up u128
                                                                                replace k74 := k74.up u128
                                                                                replace k79 := k79.up u128
                                                                                replace k83 := k83.up u128
                                                                                replace k87 := k87.up u128
                                                                                replace hV := hV.up u128
                                                                                replace U := U.tr u128
                                                                                refine l_step (y_assignV (et g0 rfl)) ?_
                                                                                refine l_nil ?_
                                                                                refine hK127 _ _ ?_
                                                                                refine fg5 5 7 8 9 154 (gS rfl (gS rfl (gS rfl (gS rfl (gS rfl (gS rfl (gS rfl (gS rfl (gS rfl g0))))))))) (gS rfl (gS rfl (gS rfl (gS rfl (gS rfl (gS rfl (gS rfl (gS rfl g0)))))))) (gS rfl (gS rfl (gS rfl (gS rfl (gS rfl (gS rfl (gS rfl g0))))))) (gS rfl (gS rfl (gS rfl (gS rfl (gS rfl (gS rfl g0)))))) g0 (fun g => ?_)
                                                                                refine c_condV (i := 154) g0 rfl (fun cB12 => ?_) (fun cB12 => ?_)
                                                                                · skip
                                                                                  
                                                                                  have e12 : feeM T < s.env.baseFee := of_decide_eq_true cB12
                                                                                  refine c_seq (fun K130 hK130 => ?_)
                                                                                  exact (by
                                                                                    refine c_draw Up 2 [(0, true), (1, true), (2, false)] (by kernel_rfl) (fun w131 hu => ⟨Up.refl _, ?_⟩)
                                                                                    replace G := G.tr (Go.ofUp hF hu)
                                                                                    replace hF := hF.up hu
                                                                                    replace k2 := k2.up hu
                                                                                    replace k3 := k3.up hu
                                                                                    replace k73 := k73.up hu
                                                                                    replace k74 := k74.up hu
                                                                                    replace k79 := k79.up hu
                                                                                    replace k83 := k83.up hu
                                                                                    replace k87 := k87.up hu
                                                                                    replace hV := hV.up hu
                                                                                    replace U := U.tr hu
                                                                                    have SU := Up.refl w131
                                                                                    refine p_step (by exact rfl) (y_loadB agg_65 sz_65 (et (gS rfl (gS rfl (gS rfl (gS rfl (gS rfl g0))))) rfl) rfl (atSB k3)) ?_
                                                                                    refine p_step (by exact rfl) y_assignC ?_
                                                                                    refine p_effN (by exact rfl) (e_storeS sz_65 (et (gS rfl (gS rfl (gS rfl (gS rfl (gS rfl (gS rfl (gS rfl g0))))))) rfl) (cellsV (et (gS rfl g0) rfl) rfl) rfl (by exact one_uL _) k3) (fun v132 w132 h132 => ?_)
                                                                                    obtain ⟨rfl, x132⟩ := h132
                                                                                    replace G := G.tr (Go.ofUp hF x132)
                                                                                    replace hF := hF.up x132
                                                                                    replace k2 := k2.up x132
                                                                                    replace k3 := k3.up x132
                                                                                    replace k73 := k73.up x132
                                                                                    replace k74 := k74.up x132
                                                                                    replace k79 := k79.up x132
                                                                                    replace k83 := k83.up x132
                                                                                    replace k87 := k87.up x132
                                                                                    replace hV := hV.up x132
                                                                                    replace U := U.tr x132
                                                                                    refine ⟨.inl rfl, ?_⟩
                                                                                    refine p_nil ?_
                                                                                    refine hK130 _ _ ?_
                                                                                    refine fg2 5 4 (gS rfl (gS rfl (gS rfl (gS rfl (gS rfl (gS rfl (gS rfl g0))))))) g0 (fun g => ?_)
                                                                                    refine c_ret ?_
                                                                                    refine hQ102 _ _ _ (in_ret ?_)
                                                                                    repeat with_reducible refine then_ret ?_
                                                                                    refine ret2 rfl (res_tmp (et g0 rfl)) (res_blk agg_65 sz_65 (et (gS rfl g0) rfl) (by first | (simp only [Value.cells, hV, aV, bV, wV, wL, List.size_toArray, length_bL, length_uL, length_be, size_spl, List.length_cons, List.length_nil, List.length_replicate, Nat.zero_add, Nat.reduceAdd, Nat.reduceLeDiff, Nat.le_refl]; done) | rfl) k3) ?_
                                                                                    have hvd : verdN s T = 12 := by rw [verdN, if_neg (fun h => h hph), if_neg e2, if_neg e3, if_neg e4, if_neg e5, if_neg e6, if_neg e7, if_neg e8, if_neg e9, if_neg e10, if_neg e11, if_pos e12]
                                                                                    exact ⟨_, 0, by rw [hvd]; rfl, fun h9 => by omega, G⟩)
                                                                                · skip
                                                                                  
                                                                                  have e12 : ¬ (feeM T < s.env.baseFee) := of_decide_eq_false cB12
                                                                                  refine c_skip ?_
                                                                                  refine hQ102 _ _ _ (in_normal ?_)
                                                                                  refine hK101 _ _ ?_
                                                                                  refine fg4 5 7 8 9 (gS rfl (gS rfl (gS rfl (gS rfl (gS rfl g0))))) (gS rfl (gS rfl (gS rfl (gS rfl g0)))) (gS rfl (gS rfl (gS rfl g0))) (gS rfl (gS rfl g0)) (fun g => ?_)
                                                                                  refine c_seq (fun K133 hK133 => ?_)
                                                                                  exact (by
                                                                                    refine c_region ?_
                                                                                    refine l_step (y_loadB agg_65 sz_65 (et (gS rfl (gS rfl g0)) rfl) rfl (at1B k73)) ?_
                                                                                    refine l_step (y_loadB agg_65 sz_65 (et (gS rfl g0) rfl) rfl (at1B k79)) ?_
                                                                                    refine l_eff (e_callV cal_98 (aC (et (gS rfl g0) rfl) (aC (et g0 rfl) aN)) (sub_ok _ _ _ hM (by omega))) (fun v134 w134 h134 => ?_)
                                                                                    obtain ⟨rfl, u134⟩ := h134
                                                                                    replace G := G.tr (Go.ofUp hF u134)
                                                                                    replace hF := hF.up u134
                                                                                    replace k2 := k2.up u134
                                                                                    replace k3 := k3.up u134
                                                                                    replace k73 := k73.up u134
                                                                                    replace k74 := k74.up u134
                                                                                    replace k79 := k79.up u134
                                                                                    replace k83 := k83.up u134
                                                                                    replace k87 := k87.up u134
                                                                                    replace hV := hV.up u134
                                                                                    replace U := U.tr u134
                                                                                    refine l_effN (e_store sz_65 (et (gS rfl (gS rfl (gS rfl (gS rfl (gS rfl (gS rfl g0)))))) rfl) (cellsV (et g0 rfl) rfl) rfl (by exact one_uL _) k3 (by exact Nat.le_of_ble_eq_true rfl)) (fun v135 w135 h135 => ?_)
                                                                                    obtain ⟨rfl, x135⟩ := h135
                                                                                    replace k2 := k2.ch x135.ch (by omega)
                                                                                    replace k73 := k73.ch x135.ch (by omega)
                                                                                    replace k74 := k74.ch x135.ch (by omega)
                                                                                    replace k79 := k79.ch x135.ch (by omega)
                                                                                    replace k83 := k83.ch x135.ch (by omega)
                                                                                    replace k87 := k87.ch x135.ch (by omega)
                                                                                    replace hV := hV.ch x135.ch (by first | omega | (intro b hb; first | (subst hb; exact ⟨hnw _ (by omega), fun hh => by have := hfz.lt hh; omega⟩) | (rcases hb with hb | hb <;> (subst hb; exact ⟨hnw _ (by omega), fun hh => by have := hfz.lt hh; omega⟩))))
                                                                                    replace k3 := x135.blk.full rfl
                                                                                    replace G := G.wr x135 (by first | exact .inr f3 | omega | (simp; omega)) nb3
                                                                                    replace hF := G.fz
                                                                                    replace U := U.st x135 f3
                                                                                    refine l_nil ?_
                                                                                    refine hK133 _ _ ?_
                                                                                    refine fg3 5 8 9 (gS rfl (gS rfl (gS rfl (gS rfl (gS rfl (gS rfl g0)))))) (gS rfl (gS rfl (gS rfl (gS rfl g0)))) (gS rfl (gS rfl (gS rfl g0))) (fun g => ?_)
                                                                                    refine c_seq (fun K136 hK136 => ?_)
                                                                                    refine c_seq (fun K137 hK137 => ?_)
                                                                                    exact (by
                                                                                      refine c_region ?_
                                                                                      refine l_step (y_loadB agg_65 sz_65 (et (gS rfl g0) rfl) rfl (at1B k74)) ?_
                                                                                      refine l_step (y_loadB agg_65 sz_65 (et (gS rfl (gS rfl (gS rfl g0))) rfl) rfl (at1B k3)) ?_
                                                                                      refine l_eff (e_callV cal_112 (aC (et (gS rfl g0) rfl) (aC (et g0 rfl) aN)) (lt_spec _ _ _ hTi (by omega))) (fun v138 w138 h138 => ?_)
                                                                                      obtain ⟨rfl, u138⟩ := h138
                                                                                      replace G := G.tr (Go.ofUp hF u138)
                                                                                      replace hF := hF.up u138
                                                                                      replace k2 := k2.up u138
                                                                                      replace k3 := k3.up u138
                                                                                      replace k73 := k73.up u138
                                                                                      replace k74 := k74.up u138
                                                                                      replace k79 := k79.up u138
                                                                                      replace k83 := k83.up u138
                                                                                      replace k87 := k87.up u138
                                                                                      replace hV := hV.up u138
                                                                                      replace U := U.tr u138
                                                                                      refine l_nil ?_
                                                                                      refine hK137 _ _ ?_
                                                                                      refine fg4 5 8 9 164 (gS rfl (gS rfl (gS rfl (gS rfl (gS rfl g0))))) (gS rfl (gS rfl (gS rfl (gS rfl g0)))) (gS rfl (gS rfl (gS rfl g0))) g0 (fun g => ?_)
                                                                                      refine c_condV (i := 164) g0 rfl (fun cB13 => ?_) (fun cB13 => ?_)
                                                                                      · skip
                                                                                        
                                                                                        have e13 : feeT T < feeM T - s.env.baseFee := of_decide_eq_true cB13
                                                                                        exact (by
                                                                                          refine c_region ?_
                                                                                          refine l_step (y_loadB agg_65 sz_65 (et (gS rfl (gS rfl (gS rfl g0))) rfl) rfl (at1B k74)) ?_
                                                                                          refine l_effN (e_store sz_65 (et (gS rfl (gS rfl (gS rfl (gS rfl (gS rfl g0))))) rfl) (cellsV (et g0 rfl) rfl) rfl (by exact one_uL _) k3 (by exact Nat.le_of_ble_eq_true rfl)) (fun v140 w140 h140 => ?_)
                                                                                          obtain ⟨rfl, x140⟩ := h140
                                                                                          replace k2 := k2.ch x140.ch (by omega)
                                                                                          replace k73 := k73.ch x140.ch (by omega)
                                                                                          replace k74 := k74.ch x140.ch (by omega)
                                                                                          replace k79 := k79.ch x140.ch (by omega)
                                                                                          replace k83 := k83.ch x140.ch (by omega)
                                                                                          replace k87 := k87.ch x140.ch (by omega)
                                                                                          replace hV := hV.ch x140.ch (by first | omega | (intro b hb; first | (subst hb; exact ⟨hnw _ (by omega), fun hh => by have := hfz.lt hh; omega⟩) | (rcases hb with hb | hb <;> (subst hb; exact ⟨hnw _ (by omega), fun hh => by have := hfz.lt hh; omega⟩))))
                                                                                          replace k3 := x140.blk.full rfl
                                                                                          replace G := G.wr x140 (by first | exact .inr f3 | omega | (simp; omega)) nb3
                                                                                          replace hF := G.fz
                                                                                          replace U := U.st x140 f3
                                                                                          refine l_nil ?_
                                                                                          refine hK136 _ _ ?_
                                                                                          refine fg2 5 9 (gS rfl (gS rfl (gS rfl (gS rfl (gS rfl g0))))) (gS rfl (gS rfl (gS rfl g0))) (fun g => ?_)
                                                                                          refine c_seq (fun K141 hK141 => ?_)
                                                                                          exact (by
                                                                                            refine c_region ?_
                                                                                            refine l_step (y_loadB agg_65 sz_65 (et g0 rfl) rfl (at1B k79)) ?_
                                                                                            refine l_step (y_loadB agg_65 sz_65 (et (gS rfl (gS rfl g0)) rfl) rfl (at1B k3)) ?_
                                                                                            refine l_eff (e_callV cal_114 (aC (et (gS rfl g0) rfl) (aC (et g0 rfl) aN)) (add_ok _ _ _ (by omega))) (fun v142 w142 h142 => ?_)
                                                                                            obtain ⟨rfl, u142⟩ := h142
                                                                                            replace G := G.tr (Go.ofUp hF u142)
                                                                                            replace hF := hF.up u142
                                                                                            replace k2 := k2.up u142
                                                                                            replace k3 := k3.up u142
                                                                                            replace k73 := k73.up u142
                                                                                            replace k74 := k74.up u142
                                                                                            replace k79 := k79.up u142
                                                                                            replace k83 := k83.up u142
                                                                                            replace k87 := k87.up u142
                                                                                            replace hV := hV.up u142
                                                                                            replace U := U.tr u142
                                                                                            refine l_step y_assignC ?_
                                                                                            refine l_effN (e_store sz_65 (et (gS rfl (gS rfl (gS rfl (gS rfl (gS rfl g0))))) rfl) (cellsV (et (gS rfl g0) rfl) rfl) rfl (by exact one_uL _) k3 (by exact Nat.le_of_ble_eq_true rfl)) (fun v143 w143 h143 => ?_)
                                                                                            obtain ⟨rfl, x143⟩ := h143
                                                                                            replace k2 := k2.ch x143.ch (by omega)
                                                                                            replace k73 := k73.ch x143.ch (by omega)
                                                                                            replace k74 := k74.ch x143.ch (by omega)
                                                                                            replace k79 := k79.ch x143.ch (by omega)
                                                                                            replace k83 := k83.ch x143.ch (by omega)
                                                                                            replace k87 := k87.ch x143.ch (by omega)
                                                                                            replace hV := hV.ch x143.ch (by first | omega | (intro b hb; first | (subst hb; exact ⟨hnw _ (by omega), fun hh => by have := hfz.lt hh; omega⟩) | (rcases hb with hb | hb <;> (subst hb; exact ⟨hnw _ (by omega), fun hh => by have := hfz.lt hh; omega⟩))))
                                                                                            replace k3 := x143.blk.full rfl
                                                                                            replace G := G.wr x143 (by first | exact .inr f3 | omega | (simp; omega)) nb3
                                                                                            replace hF := G.fz
                                                                                            replace U := U.st x143 f3
                                                                                            refine l_nil ?_
                                                                                            refine hK141 _ _ ?_
                                                                                            refine fg2 5 4 (gS rfl (gS rfl (gS rfl (gS rfl (gS rfl g0))))) g0 (fun g => ?_)
                                                                                            refine c_ret ?_
                                                                                            repeat with_reducible refine then_ret ?_
                                                                                            refine ret2 rfl (res_tmp (et g0 rfl)) (res_blk agg_65 sz_65 (et (gS rfl g0) rfl) (by first | (simp only [Value.cells, hV, aV, bV, wV, wL, List.size_toArray, length_bL, length_uL, length_be, size_spl, List.length_cons, List.length_nil, List.length_replicate, Nat.zero_add, Nat.reduceAdd, Nat.reduceLeDiff, Nat.le_refl]; done) | rfl) k3) ?_
                                                                                            have hvd : verdN s T = 0 := by rw [verdN, if_neg (fun h => h hph), if_neg e2, if_neg e3, if_neg e4, if_neg e5, if_neg e6, if_neg e7, if_neg e8, if_neg e9, if_neg e10, if_neg e11, if_neg e12]
                                                                                            have hpr : s.env.baseFee + feeT T = priceN s T := by rw [priceN, Nat.min_eq_left (by omega)]
                                                                                            exact ⟨_, _, by rw [hvd, ← hpr]; rfl, fun _ => rfl, G⟩))
                                                                                      · skip
                                                                                        
                                                                                        have e13 : ¬ feeT T < feeM T - s.env.baseFee := of_decide_eq_false cB13
                                                                                        refine c_skip ?_
                                                                                        refine hK136 _ _ ?_
                                                                                        refine fg2 5 9 (gS rfl (gS rfl (gS rfl (gS rfl g0)))) (gS rfl (gS rfl g0)) (fun g => ?_)
                                                                                        refine c_seq (fun K144 hK144 => ?_)
                                                                                        exact (by
                                                                                          refine c_region ?_
                                                                                          refine l_step (y_loadB agg_65 sz_65 (et g0 rfl) rfl (at1B k79)) ?_
                                                                                          refine l_step (y_loadB agg_65 sz_65 (et (gS rfl (gS rfl g0)) rfl) rfl (at1B k3)) ?_
                                                                                          refine l_eff (e_callV cal_114 (aC (et (gS rfl g0) rfl) (aC (et g0 rfl) aN)) (add_ok _ _ _ (by omega))) (fun v145 w145 h145 => ?_)
                                                                                          obtain ⟨rfl, u145⟩ := h145
                                                                                          replace G := G.tr (Go.ofUp hF u145)
                                                                                          replace hF := hF.up u145
                                                                                          replace k2 := k2.up u145
                                                                                          replace k3 := k3.up u145
                                                                                          replace k73 := k73.up u145
                                                                                          replace k74 := k74.up u145
                                                                                          replace k79 := k79.up u145
                                                                                          replace k83 := k83.up u145
                                                                                          replace k87 := k87.up u145
                                                                                          replace hV := hV.up u145
                                                                                          replace U := U.tr u145
                                                                                          refine l_step y_assignC ?_
                                                                                          refine l_effN (e_store sz_65 (et (gS rfl (gS rfl (gS rfl (gS rfl (gS rfl g0))))) rfl) (cellsV (et (gS rfl g0) rfl) rfl) rfl (by exact one_uL _) k3 (by exact Nat.le_of_ble_eq_true rfl)) (fun v146 w146 h146 => ?_)
                                                                                          obtain ⟨rfl, x146⟩ := h146
                                                                                          replace k2 := k2.ch x146.ch (by omega)
                                                                                          replace k73 := k73.ch x146.ch (by omega)
                                                                                          replace k74 := k74.ch x146.ch (by omega)
                                                                                          replace k79 := k79.ch x146.ch (by omega)
                                                                                          replace k83 := k83.ch x146.ch (by omega)
                                                                                          replace k87 := k87.ch x146.ch (by omega)
                                                                                          replace hV := hV.ch x146.ch (by first | omega | (intro b hb; first | (subst hb; exact ⟨hnw _ (by omega), fun hh => by have := hfz.lt hh; omega⟩) | (rcases hb with hb | hb <;> (subst hb; exact ⟨hnw _ (by omega), fun hh => by have := hfz.lt hh; omega⟩))))
                                                                                          replace k3 := x146.blk.full rfl
                                                                                          replace G := G.wr x146 (by first | exact .inr f3 | omega | (simp; omega)) nb3
                                                                                          replace hF := G.fz
                                                                                          replace U := U.st x146 f3
                                                                                          refine l_nil ?_
                                                                                          refine hK144 _ _ ?_
                                                                                          refine fg2 5 4 (gS rfl (gS rfl (gS rfl (gS rfl (gS rfl g0))))) g0 (fun g => ?_)
                                                                                          refine c_ret ?_
                                                                                          repeat with_reducible refine then_ret ?_
                                                                                          refine ret2 rfl (res_tmp (et g0 rfl)) (res_blk agg_65 sz_65 (et (gS rfl g0) rfl) (by first | (simp only [Value.cells, hV, aV, bV, wV, wL, List.size_toArray, length_bL, length_uL, length_be, size_spl, List.length_cons, List.length_nil, List.length_replicate, Nat.zero_add, Nat.reduceAdd, Nat.reduceLeDiff, Nat.le_refl]; done) | rfl) k3) ?_
                                                                                          have hvd : verdN s T = 0 := by rw [verdN, if_neg (fun h => h hph), if_neg e2, if_neg e3, if_neg e4, if_neg e5, if_neg e6, if_neg e7, if_neg e8, if_neg e9, if_neg e10, if_neg e11, if_neg e12]
                                                                                          have hpr : s.env.baseFee + (feeM T - s.env.baseFee) = priceN s T := by rw [priceN, Nat.min_eq_right (by omega)]
                                                                                          exact ⟨_, _, by rw [hvd, ← hpr]; rfl, fun _ => rfl, G⟩))))))))))))))))
                                      · skip
                                        have e7 : ¬ (T.create = true ∧ 512 < T.data.length) := fun h9 => by rw [h9.1] at q53; cases q53
                                        refine l_gskip (j := 2) (t := 81) (by exact rfl) (by exact rfl) (et g0 rfl) (by decide) (by decide) ?_
                                        refine l_gskip (j := 2) (t := 81) (by exact rfl) (by exact rfl) (et (gS rfl g0) rfl) (by decide) (by decide) ?_
                                        refine l_gskip (j := 2) (t := 81) (by exact rfl) (by exact rfl) (et (gS rfl (gS rfl g0)) rfl) (by decide) (by decide) ?_
                                        refine l_gskip (j := 2) (t := 81) (by exact rfl) (by exact rfl) (et (gS rfl (gS rfl (gS rfl g0))) rfl) (by decide) (by decide) ?_
                                        refine l_step (y_pickF (et (gS rfl (gS rfl (gS rfl (gS rfl g0)))) rfl) rfl) ?_
                                        refine l_step (y_assignV (et g0 rfl)) ?_
                                        refine l_nil ?_
                                        refine hK52 _ _ ?_
                                        refine fg4 0 3 5 78 (gS rfl (gS rfl (gS rfl (gS rfl (gS rfl (gS rfl (gS rfl (gS rfl (gS rfl (gS rfl (gS rfl (gS rfl (gS rfl (gS rfl g0)))))))))))))) (gS rfl (gS rfl (gS rfl (gS rfl (gS rfl (gS rfl (gS rfl (gS rfl (gS rfl (gS rfl (gS rfl (gS rfl (gS rfl g0))))))))))))) (gS rfl (gS rfl (gS rfl (gS rfl (gS rfl (gS rfl (gS rfl (gS rfl (gS rfl (gS rfl (gS rfl (gS rfl g0)))))))))))) g0 (fun g => ?_)
                                        refine c_false (et g0 rfl) rfl ?_
                                        refine c_seq (fun K148 hK148 => ?_)
                                        exact (by
                                          refine c_draw Up 6 [(0, true), (1, true), (2, true), (3, false), (4, true), (5, true)] (by kernel_rfl) (fun w149 hu => ⟨Up.refl _, ?_⟩)
                                          replace G := G.tr (Go.ofUp hF hu)
                                          replace hF := hF.up hu
                                          replace k2 := k2.up hu
                                          replace k3 := k3.up hu
                                          replace hV := hV.up hu
                                          replace U := U.tr hu
                                          have SU := Up.refl w149
                                          refine p_step (by exact rfl) (y_fld fld_41_4 (et (gS rfl (gS rfl g0)) rfl)) ?_
                                          refine p_step (by exact rfl) (y_load1 one_26 (et g0 rfl) (atS (k2.cell (rT3 2 _ rfl)))) ?_
                                          refine p_step (by exact rfl) (y_loadB agg_41 sz_41 (et (gS rfl (gS rfl (gS rfl (gS rfl g0)))) rfl) (by rw [List.size_toArray]; exact htl) (atSB k2)) ?_
                                          refine p_eff (by exact rfl) (e_callV cal_94 (aC (et g0 rfl) aN) (mach_intrinsic hF (ht.mono hL0) hd9 hls9)) (fun v150 w150 h150 => ?_)
                                          obtain ⟨rfl, u150⟩ := h150
                                          replace G := G.tr (Go.ofUp hF u150)
                                          replace hF := hF.up u150
                                          replace k2 := k2.up u150
                                          replace k3 := k3.up u150
                                          replace hV := hV.up u150
                                          replace U := U.tr u150
                                          refine ⟨.inr (SU.tr u150), ?_⟩
                                          replace SU := SU.tr u150
                                          refine p_step (by exact rfl) (y_lss (et (gS rfl (gS rfl g0)) rfl) (et g0 rfl)) ?_
                                          refine p_step (by exact rfl) (y_assignV (et g0 rfl)) ?_
                                          refine p_nil ?_
                                          refine hK148 _ _ ?_
                                          refine fg4 0 3 5 88 (gS rfl (gS rfl (gS rfl (gS rfl (gS rfl (gS rfl (gS rfl (gS rfl (gS rfl g0))))))))) (gS rfl (gS rfl (gS rfl (gS rfl (gS rfl (gS rfl (gS rfl (gS rfl g0)))))))) (gS rfl (gS rfl (gS rfl (gS rfl (gS rfl (gS rfl (gS rfl g0))))))) g0 (fun g => ?_)
                                          refine c_condV (i := 88) g0 rfl (fun cB8 => ?_) (fun cB8 => ?_)
                                          · skip
                                            
                                            have e8 : T.gas < intrN T := by have h9 := of_decide_eq_true cB8; omega
                                            refine c_seq (fun K152 hK152 => ?_)
                                            exact (by
                                              refine c_draw Up 2 [(0, true), (1, true), (2, false)] (by kernel_rfl) (fun w153 hu => ⟨Up.refl _, ?_⟩)
                                              replace G := G.tr (Go.ofUp hF hu)
                                              replace hF := hF.up hu
                                              replace k2 := k2.up hu
                                              replace k3 := k3.up hu
                                              replace hV := hV.up hu
                                              replace U := U.tr hu
                                              have SU := Up.refl w153
                                              refine p_step (by exact rfl) (y_loadB agg_65 sz_65 (et (gS rfl (gS rfl g0)) rfl) rfl (atSB k3)) ?_
                                              refine p_step (by exact rfl) y_assignC ?_
                                              refine p_effN (by exact rfl) (e_storeS sz_65 (et (gS rfl (gS rfl (gS rfl (gS rfl g0)))) rfl) (cellsV (et (gS rfl g0) rfl) rfl) rfl (by exact one_uL _) k3) (fun v154 w154 h154 => ?_)
                                              obtain ⟨rfl, x154⟩ := h154
                                              replace G := G.tr (Go.ofUp hF x154)
                                              replace hF := hF.up x154
                                              replace k2 := k2.up x154
                                              replace k3 := k3.up x154
                                              replace hV := hV.up x154
                                              replace U := U.tr x154
                                              refine ⟨.inl rfl, ?_⟩
                                              refine p_nil ?_
                                              refine hK152 _ _ ?_
                                              refine fg2 5 4 (gS rfl (gS rfl (gS rfl (gS rfl g0)))) g0 (fun g => ?_)
                                              refine c_ret ?_
                                              refine hQ34 _ _ _ (in_ret ?_)
                                              repeat with_reducible refine then_ret ?_
                                              refine ret2 rfl (res_tmp (et g0 rfl)) (res_blk agg_65 sz_65 (et (gS rfl g0) rfl) (by first | (simp only [Value.cells, hV, aV, bV, wV, wL, List.size_toArray, length_bL, length_uL, length_be, size_spl, List.length_cons, List.length_nil, List.length_replicate, Nat.zero_add, Nat.reduceAdd, Nat.reduceLeDiff, Nat.le_refl]; done) | rfl) k3) ?_
                                              have hvd : verdN s T = 8 := by rw [verdN, if_neg (fun h => h hph), if_neg e2, if_neg e3, if_neg e4, if_neg e5, if_neg e6, if_neg e7, if_pos e8]
                                              exact ⟨_, 0, by rw [hvd]; rfl, fun h9 => by omega, G⟩)
                                          · skip
                                            
                                            have e8 : ¬ (T.gas < intrN T) := by have h9 := of_decide_eq_false cB8; omega
                                            refine c_seq (fun K155 hK155 => ?_)
                                            exact (by
                                              refine c_draw Up 9 [(0, true), (1, true), (2, true), (3, true), (4, true), (5, true), (6, true), (7, true), (8, true)] (by kernel_rfl) (fun w156 hu => ⟨Up.refl _, ?_⟩)
                                              replace G := G.tr (Go.ofUp hF hu)
                                              replace hF := hF.up hu
                                              replace k2 := k2.up hu
                                              replace k3 := k3.up hu
                                              replace hV := hV.up hu
                                              replace U := U.tr hu
                                              have SU := Up.refl w156
                                              refine p_step (by exact rfl) (y_fld fld_41_4 (et (gS rfl (gS rfl (gS rfl g0))) rfl)) ?_
                                              refine p_step (by exact rfl) (y_load1 one_26 (et g0 rfl) (atS (k2.cell (rT3 2 _ rfl)))) ?_
                                              refine p_step (by exact rfl) (y_moveV (et (gS rfl (gS rfl (gS rfl (gS rfl (gS rfl (gS rfl g0)))))) rfl)) ?_
                                              refine p_step (by exact rfl) (y_nil (et g0 rfl)) ?_
                                              refine p_step (by exact rfl) (y_fld fld_75_6 (et g0 rfl)) ?_
                                              refine p_step (by exact rfl) (y_fld fld_31_3 (et g0 rfl)) ?_
                                              refine p_step (by exact rfl) (y_load1 one_26 (et g0 rfl) (atS (hV.c1 (eNu 2 _ rfl) rfl))) ?_
                                              refine p_step (by exact rfl) (y_gtr (et (gS rfl (gS rfl (gS rfl (gS rfl (gS rfl g0))))) rfl) (et g0 rfl)) ?_
                                              refine p_step (by exact rfl) (y_assignV (et g0 rfl)) ?_
                                              refine p_nil ?_
                                              refine hK155 _ _ ?_
                                              refine fg4 0 3 5 95 (gS rfl (gS rfl (gS rfl (gS rfl (gS rfl (gS rfl (gS rfl (gS rfl (gS rfl (gS rfl (gS rfl (gS rfl (gS rfl g0))))))))))))) (gS rfl (gS rfl (gS rfl (gS rfl (gS rfl (gS rfl (gS rfl (gS rfl (gS rfl (gS rfl (gS rfl (gS rfl g0)))))))))))) (gS rfl (gS rfl (gS rfl (gS rfl (gS rfl (gS rfl (gS rfl (gS rfl (gS rfl (gS rfl (gS rfl g0))))))))))) g0 (fun g => ?_)
                                              refine c_condV (i := 95) g0 rfl (fun cB9 => ?_) (fun cB9 => ?_)
                                              · skip
                                                
                                                have e9 : s.env.gasLimit < T.gas := by have h9 := of_decide_eq_true cB9; omega
                                                refine c_seq (fun K158 hK158 => ?_)
                                                exact (by
                                                  refine c_draw Up 2 [(0, true), (1, true), (2, false)] (by kernel_rfl) (fun w159 hu => ⟨Up.refl _, ?_⟩)
                                                  replace G := G.tr (Go.ofUp hF hu)
                                                  replace hF := hF.up hu
                                                  replace k2 := k2.up hu
                                                  replace k3 := k3.up hu
                                                  replace hV := hV.up hu
                                                  replace U := U.tr hu
                                                  have SU := Up.refl w159
                                                  refine p_step (by exact rfl) (y_loadB agg_65 sz_65 (et (gS rfl (gS rfl g0)) rfl) rfl (atSB k3)) ?_
                                                  refine p_step (by exact rfl) y_assignC ?_
                                                  refine p_effN (by exact rfl) (e_storeS sz_65 (et (gS rfl (gS rfl (gS rfl (gS rfl g0)))) rfl) (cellsV (et (gS rfl g0) rfl) rfl) rfl (by exact one_uL _) k3) (fun v160 w160 h160 => ?_)
                                                  obtain ⟨rfl, x160⟩ := h160
                                                  replace G := G.tr (Go.ofUp hF x160)
                                                  replace hF := hF.up x160
                                                  replace k2 := k2.up x160
                                                  replace k3 := k3.up x160
                                                  replace hV := hV.up x160
                                                  replace U := U.tr x160
                                                  refine ⟨.inl rfl, ?_⟩
                                                  refine p_nil ?_
                                                  refine hK158 _ _ ?_
                                                  refine fg2 5 4 (gS rfl (gS rfl (gS rfl (gS rfl g0)))) g0 (fun g => ?_)
                                                  refine c_ret ?_
                                                  refine hQ34 _ _ _ (in_ret ?_)
                                                  repeat with_reducible refine then_ret ?_
                                                  refine ret2 rfl (res_tmp (et g0 rfl)) (res_blk agg_65 sz_65 (et (gS rfl g0) rfl) (by first | (simp only [Value.cells, hV, aV, bV, wV, wL, List.size_toArray, length_bL, length_uL, length_be, size_spl, List.length_cons, List.length_nil, List.length_replicate, Nat.zero_add, Nat.reduceAdd, Nat.reduceLeDiff, Nat.le_refl]; done) | rfl) k3) ?_
                                                  have hvd : verdN s T = 9 := by rw [verdN, if_neg (fun h => h hph), if_neg e2, if_neg e3, if_neg e4, if_neg e5, if_neg e6, if_neg e7, if_neg e8, if_pos e9]
                                                  exact ⟨_, 0, by rw [hvd]; rfl, fun h9 => by omega, G⟩)
                                              · skip
                                                
                                                have e9 : ¬ (s.env.gasLimit < T.gas) := by have h9 := of_decide_eq_false cB9; omega
                                                refine c_skip ?_
                                                refine hQ34 _ _ _ (in_normal ?_)
                                                refine hK33 _ _ ?_
                                                refine fg3 0 3 5 (gS rfl (gS rfl (gS rfl (gS rfl g0)))) (gS rfl (gS rfl (gS rfl g0))) (gS rfl (gS rfl g0)) (fun g => ?_)
                                                refine c_seq (fun K161 hK161 => ?_)
                                                exact (by
                                                  refine c_region ?_
                                                  refine l_step (y_loadB agg_41 sz_41 (et (gS rfl g0) rfl) (by rw [List.size_toArray]; exact htl) (at1B k2)) ?_
                                                  refine l_eff (e_callV cal_162 (aC (et g0 rfl) aN) (engine_fees hF (ht.mono hL0))) (fun v162 w162 h162 => ?_)
                                                  obtain ⟨rfl, u162⟩ := h162
                                                  replace G := G.tr (Go.ofUp hF u162)
                                                  replace hF := hF.up u162
                                                  replace k2 := k2.up u162
                                                  replace k3 := k3.up u162
                                                  replace hV := hV.up u162
                                                  replace U := U.tr u162
                                                  refine l_step (y_moveV (et g0 rfl)) ?_
                                                  refine l_step (y_ext (et g0 rfl) rfl) ?_
                                                  refine l_step (y_ext (et (gS rfl g0) rfl) rfl) ?_
                                                  refine l_eff (e_alloc zr_65) (fun v163 w163 h163 => ?_)
                                                  obtain ⟨b163, rfl, n163⟩ := h163
                                                  have d2_163 : b2 < b163 := Nat.lt_of_lt_of_le k2.lt n163.fresh
                                                  have d3_163 : b3 < b163 := Nat.lt_of_lt_of_le k3.lt n163.fresh
                                                  have f163 : w.heap.size ≤ b163 := Nat.le_trans U.size n163.fresh
                                                  have nb163 := hF.nb n163.fresh
                                                  replace G := G.tr (Go.ofUp hF n163.up)
                                                  replace hF := hF.up n163.up
                                                  replace k2 := k2.up n163.up
                                                  replace k3 := k3.up n163.up
                                                  replace hV := hV.up n163.up
                                                  replace U := U.tr n163.up
                                                  have k163 := n163.blk
                                                  refine l_eff (e_alloc zr_65) (fun v164 w164 h164 => ?_)
                                                  obtain ⟨b164, rfl, n164⟩ := h164
                                                  have d2_164 : b2 < b164 := Nat.lt_of_lt_of_le k2.lt n164.fresh
                                                  have d3_164 : b3 < b164 := Nat.lt_of_lt_of_le k3.lt n164.fresh
                                                  have d163_164 : b163 < b164 := Nat.lt_of_lt_of_le k163.lt n164.fresh
                                                  have f164 : w.heap.size ≤ b164 := Nat.le_trans U.size n164.fresh
                                                  have nb164 := hF.nb n164.fresh
                                                  replace G := G.tr (Go.ofUp hF n164.up)
                                                  replace hF := hF.up n164.up
                                                  replace k2 := k2.up n164.up
                                                  replace k3 := k3.up n164.up
                                                  replace k163 := k163.up n164.up
                                                  replace hV := hV.up n164.up
                                                  replace U := U.tr n164.up
                                                  have k164 := n164.blk
                                                  exact (by
                                                    refine l_effN (e_store sz_65 (et (gS rfl g0) rfl) (cellsV (et (gS rfl (gS rfl (gS rfl g0))) rfl) rfl) rfl (by exact one_uL _) k163 (by exact Nat.le_of_ble_eq_true rfl)) (fun v165 w165 h165 => ?_)
                                                    obtain ⟨rfl, x165⟩ := h165
                                                    replace k2 := k2.ch x165.ch (by omega)
                                                    replace k3 := k3.ch x165.ch (by omega)
                                                    replace k164 := k164.ch x165.ch (by omega)
                                                    replace hV := hV.ch x165.ch (by first | omega | (intro b hb; first | (subst hb; exact ⟨hnw _ (by omega), fun hh => by have := hfz.lt hh; omega⟩) | (rcases hb with hb | hb <;> (subst hb; exact ⟨hnw _ (by omega), fun hh => by have := hfz.lt hh; omega⟩))))
                                                    replace k163 := x165.blk.full rfl
                                                    replace G := G.wr x165 (by first | exact .inr f163 | omega | (simp; omega)) nb163
                                                    replace hF := G.fz
                                                    replace U := U.st x165 f163
                                                    refine l_effN (e_store sz_65 (et g0 rfl) (cellsV (et (gS rfl (gS rfl g0)) rfl) rfl) rfl (by exact one_uL _) k164 (by exact Nat.le_of_ble_eq_true rfl)) (fun v166 w166 h166 => ?_)
                                                    obtain ⟨rfl, x166⟩ := h166
                                                    replace k2 := k2.ch x166.ch (by omega)
                                                    replace k3 := k3.ch x166.ch (by omega)
                                                    replace k163 := k163.ch x166.ch (by omega)
                                                    replace hV := hV.ch x166.ch (by first | omega | (intro b hb; first | (subst hb; exact ⟨hnw _ (by omega), fun hh => by have := hfz.lt hh; omega⟩) | (rcases hb with hb | hb <;> (subst hb; exact ⟨hnw _ (by omega), fun hh => by have := hfz.lt hh; omega⟩))))
                                                    replace k164 := x166.blk.full rfl
                                                    replace G := G.wr x166 (by first | exact .inr f164 | omega | (simp; omega)) nb164
                                                    replace hF := G.fz
                                                    replace U := U.st x166 f164
                                                    refine l_nil ?_
                                                    refine hK161 _ _ ?_
                                                    refine fg5 0 3 5 7 8 (gS rfl (gS rfl (gS rfl (gS rfl (gS rfl (gS rfl (gS rfl (gS rfl (gS rfl g0))))))))) (gS rfl (gS rfl (gS rfl (gS rfl (gS rfl (gS rfl (gS rfl (gS rfl g0)))))))) (gS rfl (gS rfl (gS rfl (gS rfl (gS rfl (gS rfl (gS rfl g0))))))) (gS rfl g0) g0 (fun g => ?_)
                                                    refine c_seq (fun K167 hK167 => ?_)
                                                    exact (by
                                                      refine c_region ?_
                                                      refine l_step (y_moveV (et (gS rfl (gS rfl (gS rfl (gS rfl g0)))) rfl)) ?_
                                                      refine l_step (y_nil (et g0 rfl)) ?_
                                                      refine l_step (y_fld fld_75_6 (et g0 rfl)) ?_
                                                      refine l_step (y_fld fld_31_6 (et g0 rfl)) ?_
                                                      refine l_step (y_loadR agg_28 sz_28 (et g0 rfl) (by rw [length_bL, length_be]) (at1R (hV.kC.rowO eBf rfl))) ?_
                                                      refine l_eff (e_callV cal_83 (aC (et g0 rfl) aN) (fromBytes_spec _ _)) (fun v168 w168 h168 => ?_)
                                                      obtain ⟨rfl, u168⟩ := h168
                                                      replace G := G.tr (Go.ofUp hF u168)
                                                      replace hF := hF.up u168
                                                      replace k2 := k2.up u168
                                                      replace k3 := k3.up u168
                                                      replace k163 := k163.up u168
                                                      replace k164 := k164.up u168
                                                      replace hV := hV.up u168
                                                      replace U := U.tr u168
                                                      refine l_eff (e_alloc zr_65) (fun v169 w169 h169 => ?_)
                                                      obtain ⟨b169, rfl, n169⟩ := h169
                                                      have d2_169 : b2 < b169 := Nat.lt_of_lt_of_le k2.lt n169.fresh
                                                      have d3_169 : b3 < b169 := Nat.lt_of_lt_of_le k3.lt n169.fresh
                                                      have d163_169 : b163 < b169 := Nat.lt_of_lt_of_le k163.lt n169.fresh
                                                      have d164_169 : b164 < b169 := Nat.lt_of_lt_of_le k164.lt n169.fresh
                                                      have f169 : w.heap.size ≤ b169 := Nat.le_trans U.size n169.fresh
                                                      have nb169 := hF.nb n169.fresh
                                                      replace G := G.tr (Go.ofUp hF n169.up)
                                                      replace hF := hF.up n169.up
                                                      replace k2 := k2.up n169.up
                                                      replace k3 := k3.up n169.up
                                                      replace k163 := k163.up n169.up
                                                      replace k164 := k164.up n169.up
                                                      replace hV := hV.up n169.up
                                                      replace U := U.tr n169.up
                                                      have k169 := n169.blk
                                                      exact (by
                                                        refine l_effN (e_store sz_65 (et g0 rfl) (cellsV (et (gS rfl g0) rfl) rfl) rfl (by exact one_uL _) k169 (by exact Nat.le_of_ble_eq_true rfl)) (fun v170 w170 h170 => ?_)
                                                        obtain ⟨rfl, x170⟩ := h170
                                                        replace k2 := k2.ch x170.ch (by omega)
                                                        replace k3 := k3.ch x170.ch (by omega)
                                                        replace k163 := k163.ch x170.ch (by omega)
                                                        replace k164 := k164.ch x170.ch (by omega)
                                                        replace hV := hV.ch x170.ch (by first | omega | (intro b hb; first | (subst hb; exact ⟨hnw _ (by omega), fun hh => by have := hfz.lt hh; omega⟩) | (rcases hb with hb | hb <;> (subst hb; exact ⟨hnw _ (by omega), fun hh => by have := hfz.lt hh; omega⟩))))
                                                        replace k169 := x170.blk.full rfl
                                                        replace G := G.wr x170 (by first | exact .inr f169 | omega | (simp; omega)) nb169
                                                        replace hF := G.fz
                                                        replace U := U.st x170 f169
                                                        refine l_nil ?_
                                                        refine hK167 _ _ ?_
                                                        refine fg6 0 3 5 7 8 9 (gS rfl (gS rfl (gS rfl (gS rfl (gS rfl (gS rfl (gS rfl (gS rfl (gS rfl (gS rfl (gS rfl g0))))))))))) (gS rfl (gS rfl (gS rfl (gS rfl (gS rfl (gS rfl (gS rfl (gS rfl (gS rfl (gS rfl g0)))))))))) (gS rfl (gS rfl (gS rfl (gS rfl (gS rfl (gS rfl (gS rfl (gS rfl (gS rfl g0))))))))) (gS rfl (gS rfl (gS rfl (gS rfl (gS rfl (gS rfl (gS rfl (gS rfl g0)))))))) (gS rfl (gS rfl (gS rfl (gS rfl (gS rfl (gS rfl (gS rfl g0))))))) g0 (fun g => ?_)
                                                        refine c_seq (fun K171 hK171 => ?_)
                                                        exact (by
                                                          refine c_region ?_
                                                          refine l_step (y_fld fld_41_4 (et (gS rfl (gS rfl (gS rfl (gS rfl g0)))) rfl)) ?_
                                                          refine l_step (y_load1 one_26 (et g0 rfl) (at1 (k2.cell (rT3 2 _ rfl)))) ?_
                                                          refine l_step (y_bld (bC (et g0 rfl) bN) (bld65_w _ tok.gas)) ?_
                                                          refine l_step (y_loadB agg_65 sz_65 (et (gS rfl (gS rfl (gS rfl (gS rfl (gS rfl g0))))) rfl) rfl (at1B k163)) ?_
                                                          refine l_eff (e_callV cal_163 (aC (et (gS rfl g0) rfl) (aC (et g0 rfl) aN)) (mulOver_spec _ _ _ hgW hM)) (fun v172 w172 h172 => ?_)
                                                          obtain ⟨rfl, u172⟩ := h172
                                                          replace G := G.tr (Go.ofUp hF u172)
                                                          replace hF := hF.up u172
                                                          replace k2 := k2.up u172
                                                          replace k3 := k3.up u172
                                                          replace k163 := k163.up u172
                                                          replace k164 := k164.up u172
                                                          replace k169 := k169.up u172
                                                          replace hV := hV.up u172
                                                          replace U := U.tr u172
                                                          refine l_step (y_moveV (et g0 rfl)) ?_
                                                          refine l_step (y_ext (et g0 rfl) rfl) ?_
                                                          refine l_step (y_ext (et (gS rfl g0) rfl) rfl) ?_
                                                          refine l_eff (e_alloc zr_65) (fun v173 w173 h173 => ?_)
                                                          obtain ⟨b173, rfl, n173⟩ := h173
                                                          have d2_173 : b2 < b173 := Nat.lt_of_lt_of_le k2.lt n173.fresh
                                                          have d3_173 : b3 < b173 := Nat.lt_of_lt_of_le k3.lt n173.fresh
                                                          have d163_173 : b163 < b173 := Nat.lt_of_lt_of_le k163.lt n173.fresh
                                                          have d164_173 : b164 < b173 := Nat.lt_of_lt_of_le k164.lt n173.fresh
                                                          have d169_173 : b169 < b173 := Nat.lt_of_lt_of_le k169.lt n173.fresh
                                                          have f173 : w.heap.size ≤ b173 := Nat.le_trans U.size n173.fresh
                                                          have nb173 := hF.nb n173.fresh
                                                          replace G := G.tr (Go.ofUp hF n173.up)
                                                          replace hF := hF.up n173.up
                                                          replace k2 := k2.up n173.up
                                                          replace k3 := k3.up n173.up
                                                          replace k163 := k163.up n173.up
                                                          replace k164 := k164.up n173.up
                                                          replace k169 := k169.up n173.up
                                                          replace hV := hV.up n173.up
                                                          replace U := U.tr n173.up
                                                          have k173 := n173.blk
                                                          exact (by
                                                            refine l_effN (e_store sz_65 (et g0 rfl) (cellsV (et (gS rfl (gS rfl g0)) rfl) rfl) rfl (by exact one_uL _) k173 (by exact Nat.le_of_ble_eq_true rfl)) (fun v174 w174 h174 => ?_)
                                                            obtain ⟨rfl, x174⟩ := h174
                                                            replace k2 := k2.ch x174.ch (by omega)
                                                            replace k3 := k3.ch x174.ch (by omega)
                                                            replace k163 := k163.ch x174.ch (by omega)
                                                            replace k164 := k164.ch x174.ch (by omega)
                                                            replace k169 := k169.ch x174.ch (by omega)
                                                            replace hV := hV.ch x174.ch (by first | omega | (intro b hb; first | (subst hb; exact ⟨hnw _ (by omega), fun hh => by have := hfz.lt hh; omega⟩) | (rcases hb with hb | hb <;> (subst hb; exact ⟨hnw _ (by omega), fun hh => by have := hfz.lt hh; omega⟩))))
                                                            replace k173 := x174.blk.full rfl
                                                            replace G := G.wr x174 (by first | exact .inr f173 | omega | (simp; omega)) nb173
                                                            replace hF := G.fz
                                                            replace U := U.st x174 f173
                                                            refine l_step (y_assignV (et (gS rfl g0) rfl)) ?_
                                                            refine l_nil ?_
                                                            refine hK171 _ _ ?_
                                                            refine fg8 0 3 5 7 8 9 10 11 (gS rfl (gS rfl (gS rfl (gS rfl (gS rfl (gS rfl (gS rfl (gS rfl (gS rfl (gS rfl (gS rfl (gS rfl (gS rfl (gS rfl (gS rfl g0))))))))))))))) (gS rfl (gS rfl (gS rfl (gS rfl (gS rfl (gS rfl (gS rfl (gS rfl (gS rfl (gS rfl (gS rfl (gS rfl (gS rfl (gS rfl g0)))))))))))))) (gS rfl (gS rfl (gS rfl (gS rfl (gS rfl (gS rfl (gS rfl (gS rfl (gS rfl (gS rfl (gS rfl (gS rfl (gS rfl g0))))))))))))) (gS rfl (gS rfl (gS rfl (gS rfl (gS rfl (gS rfl (gS rfl (gS rfl (gS rfl (gS rfl (gS rfl (gS rfl g0)))))))))))) (gS rfl (gS rfl (gS rfl (gS rfl (gS rfl (gS rfl (gS rfl (gS rfl (gS rfl (gS rfl (gS rfl g0))))))))))) (gS rfl (gS rfl (gS rfl (gS rfl (gS rfl (gS rfl (gS rfl (gS rfl (gS rfl (gS rfl g0)))))))))) (gS rfl g0) g0 (fun g => ?_)
                                                            refine c_seq (fun K175 hK175 => ?_)
                                                            exact (by
                                                              refine fgv8 0 3 5 7 8 9 10 11 (gS rfl (gS rfl (gS rfl (gS rfl (gS rfl (gS rfl (gS rfl g0))))))) (gS rfl (gS rfl (gS rfl (gS rfl (gS rfl (gS rfl g0)))))) (gS rfl (gS rfl (gS rfl (gS rfl (gS rfl g0))))) (gS rfl (gS rfl (gS rfl (gS rfl g0)))) (gS rfl (gS rfl (gS rfl g0))) (gS rfl (gS rfl g0)) (gS rfl g0) g0 (fun g z0 z3 z5 z7 z8 z9 z10 z11 e0 e3 e5 e7 e8 e9 e10 e11 => ?_)
                                                              refine c_drawJ (fun s_ w_ => ∃ (g : Nat → Value) (b177 : Nat), s_ = (upd (upd (upd (upd (upd (upd (upd (upd (upd g 0 z0) 3 z3) 5 z5) 7 z7) 8 z8) 9 z9) 11 z11) 12 (.pointer (some ⟨b177, 0, none⟩))) 13 (.bool (decide (W256 ≤ T.gas * feeM T % W256 + T.value)))) ∧ Ch (fun _ => False) w174 w_ ∧ w174.heap.size ≤ b177 ∧ Blk w_ b177 ((wL ((T.gas * feeM T % W256 + T.value) % W256)).toArray)) Up 11 (.pure 0 (.pure 1 (.pure 2 (.two 3 (.two 4 (.pure 5 (.pure 6 (.pure 7 (.eff 8 (.eff 9 (.pure 10 .fin)))))) 8 (.eff 4 (.pure 5 (.pure 6 (.pure 7 (.eff 9 (.pure 10 .fin))))))) 8 (.eff 3 (.eff 4 (.pure 5 (.pure 6 (.pure 7 (.eff 9 (.pure 10 .fin))))))))))) (by kernel_rfl) (fun w178 hu => ⟨Up.refl _, ?_⟩) ?_
                                                              · skip
                                                                subst e0 e3 e5 e7 e8 e9 e10 e11
                                                                replace G := G.tr (Go.ofUp hF hu)
                                                                replace hF := hF.up hu
                                                                replace k2 := k2.up hu
                                                                replace k3 := k3.up hu
                                                                replace k163 := k163.up hu
                                                                replace k164 := k164.up hu
                                                                replace k169 := k169.up hu
                                                                replace k173 := k173.up hu
                                                                replace hV := hV.up hu
                                                                replace U := U.tr hu
                                                                have SU := Up.refl w178
                                                                have V176 : Ch (fun _ => False) w174 w178 := hu
                                                                refine t_step (by exact rfl) (y_loadB agg_65 sz_65 (et (gS rfl g0) rfl) rfl (atSB k173)) ?_
                                                                refine t_step (by exact rfl) (y_fld fld_41_6 (et (gS rfl (gS rfl (gS rfl (gS rfl (gS rfl (gS rfl (gS rfl g0))))))) rfl)) ?_
                                                                refine t_step (by exact rfl) (y_loadR agg_28 sz_28 (et g0 rfl) (by rw [length_bL, length_be]) (atSR (k2.row rT5))) ?_
                                                                refine t_two ?_ ?_
                                                                · skip
                                                                  refine t_eff (by exact rfl) (e_callV cal_83 (aC (et g0 rfl) aN) (fromBytes_spec _ _)) (fun v179 w179 h179 => ?_)
                                                                  obtain ⟨rfl, u179⟩ := h179
                                                                  replace G := G.tr (Go.ofUp hF u179)
                                                                  replace hF := hF.up u179
                                                                  replace k2 := k2.up u179
                                                                  replace k3 := k3.up u179
                                                                  replace k163 := k163.up u179
                                                                  replace k164 := k164.up u179
                                                                  replace k169 := k169.up u179
                                                                  replace k173 := k173.up u179
                                                                  replace hV := hV.up u179
                                                                  replace U := U.tr u179
                                                                  replace V176 := V176.tr u179
                                                                  refine ⟨.inr (SU.tr u179), ?_⟩
                                                                  replace SU := SU.tr u179
                                                                  refine t_two ?_ ?_
                                                                  · skip
                                                                    refine t_eff (by exact rfl) (e_callV cal_164 (aC (et (gS rfl (gS rfl (gS rfl g0))) rfl) (aC (et g0 rfl) aN)) (addOver_spec _ _ _ (Nat.mod_lt _ (by decide)) tok.value)) (fun v180 w180 h180 => ?_)
                                                                    obtain ⟨rfl, u180⟩ := h180
                                                                    replace G := G.tr (Go.ofUp hF u180)
                                                                    replace hF := hF.up u180
                                                                    replace k2 := k2.up u180
                                                                    replace k3 := k3.up u180
                                                                    replace k163 := k163.up u180
                                                                    replace k164 := k164.up u180
                                                                    replace k169 := k169.up u180
                                                                    replace k173 := k173.up u180
                                                                    replace hV := hV.up u180
                                                                    replace U := U.tr u180
                                                                    replace V176 := V176.tr u180
                                                                    refine ⟨.inr (SU.tr u180), ?_⟩
                                                                    replace SU := SU.tr u180
                                                                    refine t_step (by exact rfl) (y_moveV (et g0 rfl)) ?_
                                                                    refine t_step (by exact rfl) (y_ext (et g0 rfl) rfl) ?_
                                                                    refine t_step (by exact rfl) (y_ext (et (gS rfl g0) rfl) rfl) ?_
                                                                    refine t_one ?_
                                                                    refine t_eff (by exact rfl) (e_alloc zr_65) (fun v181 w181 h181 => ?_)
                                                                    obtain ⟨b181, rfl, n181⟩ := h181
                                                                    have d2_181 : b2 < b181 := Nat.lt_of_lt_of_le k2.lt n181.fresh
                                                                    have d3_181 : b3 < b181 := Nat.lt_of_lt_of_le k3.lt n181.fresh
                                                                    have d163_181 : b163 < b181 := Nat.lt_of_lt_of_le k163.lt n181.fresh
                                                                    have d164_181 : b164 < b181 := Nat.lt_of_lt_of_le k164.lt n181.fresh
                                                                    have d169_181 : b169 < b181 := Nat.lt_of_lt_of_le k169.lt n181.fresh
                                                                    have d173_181 : b173 < b181 := Nat.lt_of_lt_of_le k173.lt n181.fresh
                                                                    have f181 : w.heap.size ≤ b181 := Nat.le_trans U.size n181.fresh
                                                                    have nb181 := hF.nb n181.fresh
                                                                    have fS181 := Nat.le_trans SU.size n181.fresh
                                                                    have fV176_181 := Nat.le_trans V176.size n181.fresh
                                                                    replace G := G.tr (Go.ofUp hF n181.up)
                                                                    replace hF := hF.up n181.up
                                                                    replace k2 := k2.up n181.up
                                                                    replace k3 := k3.up n181.up
                                                                    replace k163 := k163.up n181.up
                                                                    replace k164 := k164.up n181.up
                                                                    replace k169 := k169.up n181.up
                                                                    replace k173 := k173.up n181.up
                                                                    replace hV := hV.up n181.up
                                                                    replace U := U.tr n181.up
                                                                    replace V176 := V176.tr n181.up
                                                                    have k181 := n181.blk
                                                                    refine ⟨.inr (SU.tr n181.up), ?_⟩
                                                                    replace SU := SU.tr n181.up
                                                                    refine t_one ?_
                                                                    refine t_effN (by exact rfl) (e_store sz_65 (et g0 rfl) (cellsV (et (gS rfl (gS rfl g0)) rfl) rfl) rfl (by exact one_uL _) k181 (by exact Nat.le_of_ble_eq_true rfl)) (fun v182 w182 h182 => ?_)
                                                                    obtain ⟨rfl, x182⟩ := h182
                                                                    replace k2 := k2.ch x182.ch (by omega)
                                                                    replace k3 := k3.ch x182.ch (by omega)
                                                                    replace k163 := k163.ch x182.ch (by omega)
                                                                    replace k164 := k164.ch x182.ch (by omega)
                                                                    replace k169 := k169.ch x182.ch (by omega)
                                                                    replace k173 := k173.ch x182.ch (by omega)
                                                                    replace hV := hV.ch x182.ch (by first | omega | (intro b hb; first | (subst hb; exact ⟨hnw _ (by omega), fun hh => by have := hfz.lt hh; omega⟩) | (rcases hb with hb | hb <;> (subst hb; exact ⟨hnw _ (by omega), fun hh => by have := hfz.lt hh; omega⟩))))
                                                                    replace k181 := x182.blk.full rfl
                                                                    replace G := G.wr x182 (by first | exact .inr f181 | omega | (simp; omega)) nb181
                                                                    replace hF := G.fz
                                                                    replace U := U.st x182 f181
                                                                    replace V176 := V176.st x182 (by omega)
                                                                    refine ⟨.inr (SU.st x182 (by omega)), ?_⟩
                                                                    replace SU := SU.st x182 (by omega)
                                                                    refine t_step (by exact rfl) (y_assignV (et (gS rfl g0) rfl)) ?_
                                                                    refine tl9 0 3 5 7 8 9 11 12 13 (gS rfl (gS rfl (gS rfl (gS rfl (gS rfl (gS rfl (gS rfl (gS rfl (gS rfl (gS rfl (gS rfl (gS rfl (gS rfl (gS rfl (gS rfl (gS rfl (gS rfl g0))))))))))))))))) (gS rfl (gS rfl (gS rfl (gS rfl (gS rfl (gS rfl (gS rfl (gS rfl (gS rfl (gS rfl (gS rfl (gS rfl (gS rfl (gS rfl (gS rfl (gS rfl g0)))))))))))))))) (gS rfl (gS rfl (gS rfl (gS rfl (gS rfl (gS rfl (gS rfl (gS rfl (gS rfl (gS rfl (gS rfl (gS rfl (gS rfl (gS rfl (gS rfl g0))))))))))))))) (gS rfl (gS rfl (gS rfl (gS rfl (gS rfl (gS rfl (gS rfl (gS rfl (gS rfl (gS rfl (gS rfl (gS rfl (gS rfl (gS rfl g0)))))))))))))) (gS rfl (gS rfl (gS rfl (gS rfl (gS rfl (gS rfl (gS rfl (gS rfl (gS rfl (gS rfl (gS rfl (gS rfl (gS rfl g0))))))))))))) (gS rfl (gS rfl (gS rfl (gS rfl (gS rfl (gS rfl (gS rfl (gS rfl (gS rfl (gS rfl (gS rfl (gS rfl g0)))))))))))) (gS rfl (gS rfl (gS rfl (gS rfl (gS rfl (gS rfl (gS rfl (gS rfl (gS rfl (gS rfl g0)))))))))) (gS rfl g0) g0 (fun g => ?_)
                                                                    exact ⟨g, _, rfl, V176, Nat.le_trans hu.size fS181, k181⟩
                                                                  · skip
                                                                    refine t_eff (by exact rfl) (e_alloc zr_65) (fun v183 w183 h183 => ?_)
                                                                    obtain ⟨b183, rfl, n183⟩ := h183
                                                                    have d2_183 : b2 < b183 := Nat.lt_of_lt_of_le k2.lt n183.fresh
                                                                    have d3_183 : b3 < b183 := Nat.lt_of_lt_of_le k3.lt n183.fresh
                                                                    have d163_183 : b163 < b183 := Nat.lt_of_lt_of_le k163.lt n183.fresh
                                                                    have d164_183 : b164 < b183 := Nat.lt_of_lt_of_le k164.lt n183.fresh
                                                                    have d169_183 : b169 < b183 := Nat.lt_of_lt_of_le k169.lt n183.fresh
                                                                    have d173_183 : b173 < b183 := Nat.lt_of_lt_of_le k173.lt n183.fresh
                                                                    have f183 : w.heap.size ≤ b183 := Nat.le_trans U.size n183.fresh
                                                                    have nb183 := hF.nb n183.fresh
                                                                    have fS183 := Nat.le_trans SU.size n183.fresh
                                                                    have fV176_183 := Nat.le_trans V176.size n183.fresh
                                                                    replace G := G.tr (Go.ofUp hF n183.up)
                                                                    replace hF := hF.up n183.up
                                                                    replace k2 := k2.up n183.up
                                                                    replace k3 := k3.up n183.up
                                                                    replace k163 := k163.up n183.up
                                                                    replace k164 := k164.up n183.up
                                                                    replace k169 := k169.up n183.up
                                                                    replace k173 := k173.up n183.up
                                                                    replace hV := hV.up n183.up
                                                                    replace U := U.tr n183.up
                                                                    replace V176 := V176.tr n183.up
                                                                    have k183 := n183.blk
                                                                    refine ⟨.inr (SU.tr n183.up), ?_⟩
                                                                    replace SU := SU.tr n183.up
                                                                    refine t_one ?_
                                                                    refine t_eff (by exact rfl) (e_callV cal_164 (aC (et (gS rfl (gS rfl (gS rfl (gS rfl g0)))) rfl) (aC (et (gS rfl g0) rfl) aN)) (addOver_spec _ _ _ (Nat.mod_lt _ (by decide)) tok.value)) (fun v184 w184 h184 => ?_)
                                                                    obtain ⟨rfl, u184⟩ := h184
                                                                    replace G := G.tr (Go.ofUp hF u184)
                                                                    replace hF := hF.up u184
                                                                    replace k2 := k2.up u184
                                                                    replace k3 := k3.up u184
                                                                    replace k163 := k163.up u184
                                                                    replace k164 := k164.up u184
                                                                    replace k169 := k169.up u184
                                                                    replace k173 := k173.up u184
                                                                    replace k183 := k183.up u184
                                                                    replace hV := hV.up u184
                                                                    replace U := U.tr u184
                                                                    replace V176 := V176.tr u184
                                                                    refine ⟨.inr (SU.tr u184), ?_⟩
                                                                    replace SU := SU.tr u184
                                                                    refine t_step (by exact rfl) (y_moveV (et g0 rfl)) ?_
                                                                    refine t_step (by exact rfl) (y_ext (et g0 rfl) rfl) ?_
                                                                    refine t_step (by exact rfl) (y_ext (et (gS rfl g0) rfl) rfl) ?_
                                                                    refine t_one ?_
                                                                    refine t_effN (by exact rfl) (e_store sz_65 (et (gS rfl (gS rfl (gS rfl (gS rfl g0)))) rfl) (cellsV (et (gS rfl g0) rfl) rfl) rfl (by exact one_uL _) k183 (by exact Nat.le_of_ble_eq_true rfl)) (fun v185 w185 h185 => ?_)
                                                                    obtain ⟨rfl, x185⟩ := h185
                                                                    replace k2 := k2.ch x185.ch (by omega)
                                                                    replace k3 := k3.ch x185.ch (by omega)
                                                                    replace k163 := k163.ch x185.ch (by omega)
                                                                    replace k164 := k164.ch x185.ch (by omega)
                                                                    replace k169 := k169.ch x185.ch (by omega)
                                                                    replace k173 := k173.ch x185.ch (by omega)
                                                                    replace hV := hV.ch x185.ch (by first | omega | (intro b hb; first | (subst hb; exact ⟨hnw _ (by omega), fun hh => by have := hfz.lt hh; omega⟩) | (rcases hb with hb | hb <;> (subst hb; exact ⟨hnw _ (by omega), fun hh => by have := hfz.lt hh; omega⟩))))
                                                                    replace k183 := x185.blk.full rfl
                                                                    replace G := G.wr x185 (by first | exact .inr f183 | omega | (simp; omega)) nb183
                                                                    replace hF := G.fz
                                                                    replace U := U.st x185 f183
                                                                    replace V176 := V176.st x185 (by omega)
                                                                    refine ⟨.inr (SU.st x185 (by omega)), ?_⟩
                                                                    replace SU := SU.st x185 (by omega)
                                                                    refine t_step (by exact rfl) (y_assignV (et g0 rfl)) ?_
                                                                    refine tl9 0 3 5 7 8 9 11 12 13 (gS rfl (gS rfl (gS rfl (gS rfl (gS rfl (gS rfl (gS rfl (gS rfl (gS rfl (gS rfl (gS rfl (gS rfl (gS rfl (gS rfl (gS rfl (gS rfl (gS rfl g0))))))))))))))))) (gS rfl (gS rfl (gS rfl (gS rfl (gS rfl (gS rfl (gS rfl (gS rfl (gS rfl (gS rfl (gS rfl (gS rfl (gS rfl (gS rfl (gS rfl (gS rfl g0)))))))))))))))) (gS rfl (gS rfl (gS rfl (gS rfl (gS rfl (gS rfl (gS rfl (gS rfl (gS rfl (gS rfl (gS rfl (gS rfl (gS rfl (gS rfl (gS rfl g0))))))))))))))) (gS rfl (gS rfl (gS rfl (gS rfl (gS rfl (gS rfl (gS rfl (gS rfl (gS rfl (gS rfl (gS rfl (gS rfl (gS rfl (gS rfl g0)))))))))))))) (gS rfl (gS rfl (gS rfl (gS rfl (gS rfl (gS rfl (gS rfl (gS rfl (gS rfl (gS rfl (gS rfl (gS rfl (gS rfl g0))))))))))))) (gS rfl (gS rfl (gS rfl (gS rfl (gS rfl (gS rfl (gS rfl (gS rfl (gS rfl (gS rfl (gS rfl (gS rfl g0)))))))))))) (gS rfl (gS rfl (gS rfl (gS rfl (gS rfl (gS rfl (gS rfl (gS rfl (gS rfl (gS rfl g0)))))))))) (gS rfl (gS rfl (gS rfl (gS rfl (gS rfl g0))))) g0 (fun g => ?_)
                                                                    exact ⟨g, _, rfl, V176, Nat.le_trans hu.size fS183, k183⟩
                                                                · skip
                                                                  refine t_eff (by exact rfl) (e_alloc zr_65) (fun v186 w186 h186 => ?_)
                                                                  obtain ⟨b186, rfl, n186⟩ := h186
                                                                  have d2_186 : b2 < b186 := Nat.lt_of_lt_of_le k2.lt n186.fresh
                                                                  have d3_186 : b3 < b186 := Nat.lt_of_lt_of_le k3.lt n186.fresh
                                                                  have d163_186 : b163 < b186 := Nat.lt_of_lt_of_le k163.lt n186.fresh
                                                                  have d164_186 : b164 < b186 := Nat.lt_of_lt_of_le k164.lt n186.fresh
                                                                  have d169_186 : b169 < b186 := Nat.lt_of_lt_of_le k169.lt n186.fresh
                                                                  have d173_186 : b173 < b186 := Nat.lt_of_lt_of_le k173.lt n186.fresh
                                                                  have f186 : w.heap.size ≤ b186 := Nat.le_trans U.size n186.fresh
                                                                  have nb186 := hF.nb n186.fresh
                                                                  have fS186 := Nat.le_trans SU.size n186.fresh
                                                                  have fV176_186 := Nat.le_trans V176.size n186.fresh
                                                                  replace G := G.tr (Go.ofUp hF n186.up)
                                                                  replace hF := hF.up n186.up
                                                                  replace k2 := k2.up n186.up
                                                                  replace k3 := k3.up n186.up
                                                                  replace k163 := k163.up n186.up
                                                                  replace k164 := k164.up n186.up
                                                                  replace k169 := k169.up n186.up
                                                                  replace k173 := k173.up n186.up
                                                                  replace hV := hV.up n186.up
                                                                  replace U := U.tr n186.up
                                                                  replace V176 := V176.tr n186.up
                                                                  have k186 := n186.blk
                                                                  refine ⟨.inr (SU.tr n186.up), ?_⟩
                                                                  replace SU := SU.tr n186.up
                                                                  refine t_one ?_
                                                                  refine t_eff (by exact rfl) (e_callV cal_83 (aC (et (gS rfl g0) rfl) aN) (fromBytes_spec _ _)) (fun v187 w187 h187 => ?_)
                                                                  obtain ⟨rfl, u187⟩ := h187
                                                                  replace G := G.tr (Go.ofUp hF u187)
                                                                  replace hF := hF.up u187
                                                                  replace k2 := k2.up u187
                                                                  replace k3 := k3.up u187
                                                                  replace k163 := k163.up u187
                                                                  replace k164 := k164.up u187
                                                                  replace k169 := k169.up u187
                                                                  replace k173 := k173.up u187
                                                                  replace k186 := k186.up u187
                                                                  replace hV := hV.up u187
                                                                  replace U := U.tr u187
                                                                  replace V176 := V176.tr u187
                                                                  refine ⟨.inr (SU.tr u187), ?_⟩
                                                                  replace SU := SU.tr u187
                                                                  refine t_one ?_
                                                                  refine t_eff (by exact rfl) (e_callV cal_164 (aC (et (gS rfl (gS rfl (gS rfl (gS rfl g0)))) rfl) (aC (et g0 rfl) aN)) (addOver_spec _ _ _ (Nat.mod_lt _ (by decide)) tok.value)) (fun v188 w188 h188 => ?_)
                                                                  obtain ⟨rfl, u188⟩ := h188
                                                                  replace G := G.tr (Go.ofUp hF u188)
                                                                  replace hF := hF.up u188
                                                                  replace k2 := k2.up u188
                                                                  replace k3 := k3.up u188
                                                                  replace k163 := k163.up u188
                                                                  replace k164 := k164.up u188
                                                                  replace k169 := k169.up u188
                                                                  replace k173 := k173.up u188
                                                                  replace k186 := k186.up u188
                                                                  replace hV := hV.up u188
                                                                  replace U := U.tr u188
                                                                  replace V176 := V176.tr u188
                                                                  refine ⟨.inr (SU.tr u188), ?_⟩
                                                                  replace SU := SU.tr u188
                                                                  refine t_step (by exact rfl) (y_moveV (et g0 rfl)) ?_
                                                                  refine t_step (by exact rfl) (y_ext (et g0 rfl) rfl) ?_
                                                                  refine t_step (by exact rfl) (y_ext (et (gS rfl g0) rfl) rfl) ?_
                                                                  refine t_one ?_
                                                                  refine t_effN (by exact rfl) (e_store sz_65 (et (gS rfl (gS rfl (gS rfl (gS rfl (gS rfl g0))))) rfl) (cellsV (et (gS rfl g0) rfl) rfl) rfl (by exact one_uL _) k186 (by exact Nat.le_of_ble_eq_true rfl)) (fun v189 w189 h189 => ?_)
                                                                  obtain ⟨rfl, x189⟩ := h189
                                                                  replace k2 := k2.ch x189.ch (by omega)
                                                                  replace k3 := k3.ch x189.ch (by omega)
                                                                  replace k163 := k163.ch x189.ch (by omega)
                                                                  replace k164 := k164.ch x189.ch (by omega)
                                                                  replace k169 := k169.ch x189.ch (by omega)
                                                                  replace k173 := k173.ch x189.ch (by omega)
                                                                  replace hV := hV.ch x189.ch (by first | omega | (intro b hb; first | (subst hb; exact ⟨hnw _ (by omega), fun hh => by have := hfz.lt hh; omega⟩) | (rcases hb with hb | hb <;> (subst hb; exact ⟨hnw _ (by omega), fun hh => by have := hfz.lt hh; omega⟩))))
                                                                  replace k186 := x189.blk.full rfl
                                                                  replace G := G.wr x189 (by first | exact .inr f186 | omega | (simp; omega)) nb186
                                                                  replace hF := G.fz
                                                                  replace U := U.st x189 f186
                                                                  replace V176 := V176.st x189 (by omega)
                                                                  refine ⟨.inr (SU.st x189 (by omega)), ?_⟩
                                                                  replace SU := SU.st x189 (by omega)
                                                                  refine t_step (by exact rfl) (y_assignV (et g0 rfl)) ?_
                                                                  refine tl9 0 3 5 7 8 9 11 12 13 (gS rfl (gS rfl (gS rfl (gS rfl (gS rfl (gS rfl (gS rfl (gS rfl (gS rfl (gS rfl (gS rfl (gS rfl (gS rfl (gS rfl (gS rfl (gS rfl (gS rfl g0))))))))))))))))) (gS rfl (gS rfl (gS rfl (gS rfl (gS rfl (gS rfl (gS rfl (gS rfl (gS rfl (gS rfl (gS rfl (gS rfl (gS rfl (gS rfl (gS rfl (gS rfl g0)))))))))))))))) (gS rfl (gS rfl (gS rfl (gS rfl (gS rfl (gS rfl (gS rfl (gS rfl (gS rfl (gS rfl (gS rfl (gS rfl (gS rfl (gS rfl (gS rfl g0))))))))))))))) (gS rfl (gS rfl (gS rfl (gS rfl (gS rfl (gS rfl (gS rfl (gS rfl (gS rfl (gS rfl (gS rfl (gS rfl (gS rfl (gS rfl g0)))))))))))))) (gS rfl (gS rfl (gS rfl (gS rfl (gS rfl (gS rfl (gS rfl (gS rfl (gS rfl (gS rfl (gS rfl (gS rfl (gS rfl g0))))))))))))) (gS rfl (gS rfl (gS rfl (gS rfl (gS rfl (gS rfl (gS rfl (gS rfl (gS rfl (gS rfl (gS rfl (gS rfl g0)))))))))))) (gS rfl (gS rfl (gS rfl (gS rfl (gS rfl (gS rfl (gS rfl (gS rfl (gS rfl (gS rfl g0)))))))))) (gS rfl (gS rfl (gS rfl (gS rfl (gS rfl (gS rfl g0)))))) g0 (fun g => ?_)
                                                                  exact ⟨g, _, rfl, V176, Nat.le_trans hu.size fS186, k186⟩
                                                              intro s_ w190 hJ
                                                              obtain ⟨g, b177, rfl, V176, fn177, kn177⟩ := hJ
                                                              subst e0 e3 e5 e7 e8 e9 e10 e11
                                                              have d2_177 : b2 < b177 := Nat.lt_of_lt_of_le k2.lt fn177
                                                              have d3_177 : b3 < b177 := Nat.lt_of_lt_of_le k3.lt fn177
                                                              have d163_177 : b163 < b177 := Nat.lt_of_lt_of_le k163.lt fn177
                                                              have d164_177 : b164 < b177 := Nat.lt_of_lt_of_le k164.lt fn177
                                                              have d169_177 : b169 < b177 := Nat.lt_of_lt_of_le k169.lt fn177
                                                              have d173_177 : b173 < b177 := Nat.lt_of_lt_of_le k173.lt fn177
                                                              have f177 : w.heap.size ≤ b177 := Nat.le_trans U.size fn177
                                                              have nb177 := hF.nb fn177
                                                              replace G := G.tr (Go.ofUp hF V176)
                                                              replace hF := hF.up V176
                                                              replace k2 := k2.up V176
                                                              replace k3 := k3.up V176
                                                              replace k163 := k163.up V176
                                                              replace k164 := k164.up V176
                                                              replace k169 := k169.up V176
                                                              replace k173 := k173.up V176
                                                              replace hV := hV.up V176
                                                              replace U := U.tr V176
                                                              have k177 := kn177
                                                              refine hK175 _ _ ?_
                                                              refine c_seq (fun K191 hK191 => ?_)
                                                              refine c_block (fun Q192 hQ192 => ?_)
                                                              refine c_seq (fun K193 hK193 => ?_)
                                                              exact (by
                                                                refine c_draw Up 16 [(0, true), (1, true), (2, true), (3, true), (4, true), (5, true), (6, true), (7, true), (8, true), (9, true), (10, true), (12, true), (11, false), (13, false), (14, true), (15, true)] (by kernel_rfl) (fun w194 hu => ⟨Up.refl _, ?_⟩)
                                                                replace G := G.tr (Go.ofUp hF hu)
                                                                replace hF := hF.up hu
                                                                replace k2 := k2.up hu
                                                                replace k3 := k3.up hu
                                                                replace k163 := k163.up hu
                                                                replace k164 := k164.up hu
                                                                replace k169 := k169.up hu
                                                                replace k173 := k173.up hu
                                                                replace k177 := k177.up hu
                                                                replace hV := hV.up hu
                                                                replace U := U.tr hu
                                                                have SU := Up.refl w194
                                                                refine p_step (by exact rfl) (y_moveV (et (gS rfl (gS rfl g0)) rfl)) ?_
                                                                refine p_step (by exact rfl) (y_moveV (et g0 rfl)) ?_
                                                                refine gsplitP (i := 134) g0 (fun q195 => ?_) (fun q195 => ?_)
                                                                · skip
                                                                  have g3 : W256 ≤ T.gas * feeM T := of_decide_eq_true q195
                                                                  refine p_gskip (j := 1) (t := 134) (by exact rfl) (by exact rfl) (by exact rfl) (et g0 rfl) rfl rfl ?_
                                                                  refine p_step (by exact rfl) (y_pickT (et (gS rfl g0) rfl) rfl) ?_
                                                                  refine p_step (by exact rfl) (y_moveV (et g0 rfl)) ?_
                                                                  refine p_gskip (j := 4) (t := 137) (by exact rfl) (by exact rfl) (by exact rfl) (et g0 rfl) rfl rfl ?_
                                                                  refine p_gskip (j := 4) (t := 137) (by exact rfl) (by exact rfl) (by exact rfl) (et (gS rfl g0) rfl) rfl rfl ?_
                                                                  refine p_gskip (j := 4) (t := 137) (by exact rfl) (by exact rfl) (by exact rfl) (et (gS rfl (gS rfl g0)) rfl) rfl rfl ?_
                                                                  refine p_gskip (j := 4) (t := 137) (by exact rfl) (by exact rfl) (by exact rfl) (et (gS rfl (gS rfl (gS rfl g0))) rfl) rfl rfl ?_
                                                                  refine p_gskip (j := 4) (t := 137) (by exact rfl) (by exact rfl) (by exact rfl) (et (gS rfl (gS rfl (gS rfl (gS rfl g0)))) rfl) rfl rfl ?_
                                                                  refine p_gskip (j := 4) (t := 137) (by exact rfl) (by exact rfl) (by exact rfl) (et (gS rfl (gS rfl (gS rfl (gS rfl (gS rfl g0))))) rfl) rfl rfl ?_
                                                                  refine p_gskip (j := 4) (t := 137) (by exact rfl) (by exact rfl) (by exact rfl) (et (gS rfl (gS rfl (gS rfl (gS rfl (gS rfl (gS rfl g0)))))) rfl) rfl rfl ?_
                                                                  refine p_geskip (j := 4) (t := 137) (by exact rfl) (by exact rfl) (by exact rfl) (et (gS rfl (gS rfl (gS rfl (gS rfl (gS rfl (gS rfl (gS rfl g0))))))) rfl) rfl rfl ⟨.inr SU, ?_⟩
                                                                  refine p_geskip (j := 4) (t := 137) (by exact rfl) (by exact rfl) (by exact rfl) (et (gS rfl (gS rfl (gS rfl (gS rfl (gS rfl (gS rfl (gS rfl (gS rfl g0)))))))) rfl) rfl rfl ⟨.inr SU, ?_⟩
                                                                  refine p_step (by exact rfl) (y_pickT (et (gS rfl (gS rfl (gS rfl (gS rfl (gS rfl (gS rfl (gS rfl (gS rfl (gS rfl g0))))))))) rfl) rfl) ?_
                                                                  refine p_step (by exact rfl) (y_assignV (et g0 rfl)) ?_
                                                                  refine p_nil ?_
                                                                  refine hK193 _ _ ?_
                                                                  refine fg5 5 7 8 9 132 (gS rfl (gS rfl (gS rfl (gS rfl (gS rfl (gS rfl (gS rfl (gS rfl (gS rfl (gS rfl (gS rfl (gS rfl (gS rfl (gS rfl (gS rfl (gS rfl (gS rfl (gS rfl (gS rfl (gS rfl (gS rfl (gS rfl (gS rfl g0))))))))))))))))))))))) (gS rfl (gS rfl (gS rfl (gS rfl (gS rfl (gS rfl (gS rfl (gS rfl (gS rfl (gS rfl (gS rfl (gS rfl (gS rfl (gS rfl (gS rfl (gS rfl (gS rfl (gS rfl (gS rfl (gS rfl (gS rfl (gS rfl g0)))))))))))))))))))))) (gS rfl (gS rfl (gS rfl (gS rfl (gS rfl (gS rfl (gS rfl (gS rfl (gS rfl (gS rfl (gS rfl (gS rfl (gS rfl (gS rfl (gS rfl (gS rfl (gS rfl (gS rfl (gS rfl (gS rfl (gS rfl g0))))))))))))))))))))) (gS rfl (gS rfl (gS rfl (gS rfl (gS rfl (gS rfl (gS rfl (gS rfl (gS rfl (gS rfl (gS rfl (gS rfl (gS rfl (gS rfl (gS rfl (gS rfl (gS rfl (gS rfl (gS rfl (gS rfl g0)))))))))))))))))))) g0 (fun g => ?_)
                                                                  have e10 : (vdA s T).bal < T.gas * feeM T + T.value := by omega
                                                                  refine c_true (et g0 rfl) rfl ?_
                                                                  refine c_seq (fun K197 hK197 => ?_)
                                                                  exact (by
                                                                    refine c_draw Up 2 [(0, true), (1, true), (2, false)] (by kernel_rfl) (fun w198 hu => ⟨Up.refl _, ?_⟩)
                                                                    replace G := G.tr (Go.ofUp hF hu)
                                                                    replace hF := hF.up hu
                                                                    replace k2 := k2.up hu
                                                                    replace k3 := k3.up hu
                                                                    replace k163 := k163.up hu
                                                                    replace k164 := k164.up hu
                                                                    replace k169 := k169.up hu
                                                                    replace k173 := k173.up hu
                                                                    replace k177 := k177.up hu
                                                                    replace hV := hV.up hu
                                                                    replace U := U.tr hu
                                                                    have SU := Up.refl w198
                                                                    refine p_step (by exact rfl) (y_loadB agg_65 sz_65 (et (gS rfl (gS rfl (gS rfl (gS rfl g0)))) rfl) rfl (atSB k3)) ?_
                                                                    refine p_step (by exact rfl) y_assignC ?_
                                                                    refine p_effN (by exact rfl) (e_storeS sz_65 (et (gS rfl (gS rfl (gS rfl (gS rfl (gS rfl (gS rfl g0)))))) rfl) (cellsV (et (gS rfl g0) rfl) rfl) rfl (by exact one_uL _) k3) (fun v199 w199 h199 => ?_)
                                                                    obtain ⟨rfl, x199⟩ := h199
                                                                    replace G := G.tr (Go.ofUp hF x199)
                                                                    replace hF := hF.up x199
                                                                    replace k2 := k2.up x199
                                                                    replace k3 := k3.up x199
                                                                    replace k163 := k163.up x199
                                                                    replace k164 := k164.up x199
                                                                    replace k169 := k169.up x199
                                                                    replace k173 := k173.up x199
                                                                    replace k177 := k177.up x199
                                                                    replace hV := hV.up x199
                                                                    replace U := U.tr x199
                                                                    refine ⟨.inl rfl, ?_⟩
                                                                    refine p_nil ?_
                                                                    refine hK197 _ _ ?_
                                                                    refine fg2 5 4 (gS rfl (gS rfl (gS rfl (gS rfl (gS rfl (gS rfl g0)))))) g0 (fun g => ?_)
                                                                    refine c_ret ?_
                                                                    refine hQ192 _ _ _ (in_ret ?_)
                                                                    repeat with_reducible refine then_ret ?_
                                                                    refine ret2 rfl (res_tmp (et g0 rfl)) (res_blk agg_65 sz_65 (et (gS rfl g0) rfl) (by first | (simp only [Value.cells, hV, aV, bV, wV, wL, List.size_toArray, length_bL, length_uL, length_be, size_spl, List.length_cons, List.length_nil, List.length_replicate, Nat.zero_add, Nat.reduceAdd, Nat.reduceLeDiff, Nat.le_refl]; done) | rfl) k3) ?_
                                                                    have hvd : verdN s T = 10 := by rw [verdN, if_neg (fun h => h hph), if_neg e2, if_neg e3, if_neg e4, if_neg e5, if_neg e6, if_neg e7, if_neg e8, if_neg e9, if_pos e10]
                                                                    exact ⟨_, 0, by rw [hvd]; rfl, fun h9 => by omega, G⟩)
                                                                · skip
                                                                  have g3 : ¬ W256 ≤ T.gas * feeM T := of_decide_eq_false q195
                                                                  have hmd9 : T.gas * feeM T % W256 = T.gas * feeM T := Nat.mod_eq_of_lt (by omega)
                                                                  refine p_gstep (j := 1) (t := 134) (by exact rfl) (by exact rfl) (by exact rfl) (et g0 rfl) rfl (y_moveV (et (gS rfl (gS rfl (gS rfl g0))) rfl)) ?_
                                                                  refine p_step (by exact rfl) (y_pickF (et (gS rfl g0) rfl) (et g0 rfl)) ?_
                                                                  refine p_step (by exact rfl) (y_moveV (et g0 rfl)) ?_
                                                                  refine gsplitP (i := 137) g0 (fun q200 => ?_) (fun q200 => ?_)
                                                                  · skip
                                                                    have g4 : W256 ≤ T.gas * feeM T + T.value := by have h9 := of_decide_eq_true q200; rw [hmd9] at h9; exact h9
                                                                    refine p_gskip (j := 4) (t := 137) (by exact rfl) (by exact rfl) (by exact rfl) (et g0 rfl) rfl rfl ?_
                                                                    refine p_gskip (j := 4) (t := 137) (by exact rfl) (by exact rfl) (by exact rfl) (et (gS rfl g0) rfl) rfl rfl ?_
                                                                    refine p_gskip (j := 4) (t := 137) (by exact rfl) (by exact rfl) (by exact rfl) (et (gS rfl (gS rfl g0)) rfl) rfl rfl ?_
                                                                    refine p_gskip (j := 4) (t := 137) (by exact rfl) (by exact rfl) (by exact rfl) (et (gS rfl (gS rfl (gS rfl g0))) rfl) rfl rfl ?_
                                                                    refine p_gskip (j := 4) (t := 137) (by exact rfl) (by exact rfl) (by exact rfl) (et (gS rfl (gS rfl (gS rfl (gS rfl g0)))) rfl) rfl rfl ?_
                                                                    refine p_gskip (j := 4) (t := 137) (by exact rfl) (by exact rfl) (by exact rfl) (et (gS rfl (gS rfl (gS rfl (gS rfl (gS rfl g0))))) rfl) rfl rfl ?_
                                                                    refine p_gskip (j := 4) (t := 137) (by exact rfl) (by exact rfl) (by exact rfl) (et (gS rfl (gS rfl (gS rfl (gS rfl (gS rfl (gS rfl g0)))))) rfl) rfl rfl ?_
                                                                    refine p_geskip (j := 4) (t := 137) (by exact rfl) (by exact rfl) (by exact rfl) (et (gS rfl (gS rfl (gS rfl (gS rfl (gS rfl (gS rfl (gS rfl g0))))))) rfl) rfl rfl ⟨.inr SU, ?_⟩
                                                                    refine p_geskip (j := 4) (t := 137) (by exact rfl) (by exact rfl) (by exact rfl) (et (gS rfl (gS rfl (gS rfl (gS rfl (gS rfl (gS rfl (gS rfl (gS rfl g0)))))))) rfl) rfl rfl ⟨.inr SU, ?_⟩
                                                                    refine p_step (by exact rfl) (y_pickT (et (gS rfl (gS rfl (gS rfl (gS rfl (gS rfl (gS rfl (gS rfl (gS rfl (gS rfl g0))))))))) rfl) rfl) ?_
                                                                    refine p_step (by exact rfl) (y_assignV (et g0 rfl)) ?_
                                                                    refine p_nil ?_
                                                                    refine hK193 _ _ ?_
                                                                    refine fg5 5 7 8 9 132 (gS rfl (gS rfl (gS rfl (gS rfl (gS rfl (gS rfl (gS rfl (gS rfl (gS rfl (gS rfl (gS rfl (gS rfl (gS rfl (gS rfl (gS rfl (gS rfl (gS rfl (gS rfl (gS rfl (gS rfl (gS rfl (gS rfl (gS rfl (gS rfl g0)))))))))))))))))))))))) (gS rfl (gS rfl (gS rfl (gS rfl (gS rfl (gS rfl (gS rfl (gS rfl (gS rfl (gS rfl (gS rfl (gS rfl (gS rfl (gS rfl (gS rfl (gS rfl (gS rfl (gS rfl (gS rfl (gS rfl (gS rfl (gS rfl (gS rfl g0))))))))))))))))))))))) (gS rfl (gS rfl (gS rfl (gS rfl (gS rfl (gS rfl (gS rfl (gS rfl (gS rfl (gS rfl (gS rfl (gS rfl (gS rfl (gS rfl (gS rfl (gS rfl (gS rfl (gS rfl (gS rfl (gS rfl (gS rfl (gS rfl g0)))))))))))))))))))))) (gS rfl (gS rfl (gS rfl (gS rfl (gS rfl (gS rfl (gS rfl (gS rfl (gS rfl (gS rfl (gS rfl (gS rfl (gS rfl (gS rfl (gS rfl (gS rfl (gS rfl (gS rfl (gS rfl (gS rfl (gS rfl g0))))))))))))))))))))) g0 (fun g => ?_)
                                                                    have e10 : (vdA s T).bal < T.gas * feeM T + T.value := by omega
                                                                    refine c_true (et g0 rfl) rfl ?_
                                                                    refine c_seq (fun K202 hK202 => ?_)
                                                                    exact (by
                                                                      refine c_draw Up 2 [(0, true), (1, true), (2, false)] (by kernel_rfl) (fun w203 hu => ⟨Up.refl _, ?_⟩)
                                                                      replace G := G.tr (Go.ofUp hF hu)
                                                                      replace hF := hF.up hu
                                                                      replace k2 := k2.up hu
                                                                      replace k3 := k3.up hu
                                                                      replace k163 := k163.up hu
                                                                      replace k164 := k164.up hu
                                                                      replace k169 := k169.up hu
                                                                      replace k173 := k173.up hu
                                                                      replace k177 := k177.up hu
                                                                      replace hV := hV.up hu
                                                                      replace U := U.tr hu
                                                                      have SU := Up.refl w203
                                                                      refine p_step (by exact rfl) (y_loadB agg_65 sz_65 (et (gS rfl (gS rfl (gS rfl (gS rfl g0)))) rfl) rfl (atSB k3)) ?_
                                                                      refine p_step (by exact rfl) y_assignC ?_
                                                                      refine p_effN (by exact rfl) (e_storeS sz_65 (et (gS rfl (gS rfl (gS rfl (gS rfl (gS rfl (gS rfl g0)))))) rfl) (cellsV (et (gS rfl g0) rfl) rfl) rfl (by exact one_uL _) k3) (fun v204 w204 h204 => ?_)
                                                                      obtain ⟨rfl, x204⟩ := h204
                                                                      replace G := G.tr (Go.ofUp hF x204)
                                                                      replace hF := hF.up x204
                                                                      replace k2 := k2.up x204
                                                                      replace k3 := k3.up x204
                                                                      replace k163 := k163.up x204
                                                                      replace k164 := k164.up x204
                                                                      replace k169 := k169.up x204
                                                                      replace k173 := k173.up x204
                                                                      replace k177 := k177.up x204
                                                                      replace hV := hV.up x204
                                                                      replace U := U.tr x204
                                                                      refine ⟨.inl rfl, ?_⟩
                                                                      refine p_nil ?_
                                                                      refine hK202 _ _ ?_
                                                                      refine fg2 5 4 (gS rfl (gS rfl (gS rfl (gS rfl (gS rfl (gS rfl g0)))))) g0 (fun g => ?_)
                                                                      refine c_ret ?_
                                                                      refine hQ192 _ _ _ (in_ret ?_)
                                                                      repeat with_reducible refine then_ret ?_
                                                                      refine ret2 rfl (res_tmp (et g0 rfl)) (res_blk agg_65 sz_65 (et (gS rfl g0) rfl) (by first | (simp only [Value.cells, hV, aV, bV, wV, wL, List.size_toArray, length_bL, length_uL, length_be, size_spl, List.length_cons, List.length_nil, List.length_replicate, Nat.zero_add, Nat.reduceAdd, Nat.reduceLeDiff, Nat.le_refl]; done) | rfl) k3) ?_
                                                                      have hvd : verdN s T = 10 := by rw [verdN, if_neg (fun h => h hph), if_neg e2, if_neg e3, if_neg e4, if_neg e5, if_neg e6, if_neg e7, if_neg e8, if_neg e9, if_pos e10]
                                                                      exact ⟨_, 0, by rw [hvd]; rfl, fun h9 => by omega, G⟩)
                                                                  · skip
                                                                    have g4 : ¬ W256 ≤ T.gas * feeM T + T.value := by have h9 := of_decide_eq_false q200; rw [hmd9] at h9; exact h9
                                                                    have hmd8 : (T.gas * feeM T % W256 + T.value) % W256 = T.gas * feeM T + T.value := by rw [hmd9]; exact Nat.mod_eq_of_lt (by omega)
                                                                    refine p_gstep (j := 4) (t := 137) (by exact rfl) (by exact rfl) (by exact rfl) (et g0 rfl) rfl (y_moveV (et (gS rfl (gS rfl (gS rfl (gS rfl (gS rfl (gS rfl (gS rfl (gS rfl (gS rfl (gS rfl (gS rfl (gS rfl (gS rfl (gS rfl (gS rfl g0))))))))))))))) rfl)) ?_
                                                                    refine p_gstep (j := 4) (t := 137) (by exact rfl) (by exact rfl) (by exact rfl) (et (gS rfl g0) rfl) rfl (y_nil (et g0 rfl)) ?_
                                                                    refine p_gstep (j := 4) (t := 137) (by exact rfl) (by exact rfl) (by exact rfl) (et (gS rfl (gS rfl g0)) rfl) rfl (y_fld fld_75_0 (et g0 rfl)) ?_
                                                                    refine p_gstep (j := 4) (t := 137) (by exact rfl) (by exact rfl) (by exact rfl) (et (gS rfl (gS rfl (gS rfl g0))) rfl) rfl (y_load1 one_59 (et g0 rfl) (atS (hV.c1 hL.pS rfl))) ?_
                                                                    refine p_gstep (j := 4) (t := 137) (by exact rfl) (by exact rfl) (by exact rfl) (et (gS rfl (gS rfl (gS rfl (gS rfl g0)))) rfl) rfl (y_fld fld_41_0 (et (gS rfl (gS rfl (gS rfl (gS rfl (gS rfl (gS rfl (gS rfl (gS rfl (gS rfl (gS rfl (gS rfl (gS rfl (gS rfl (gS rfl (gS rfl (gS rfl (gS rfl (gS rfl g0)))))))))))))))))) rfl)) ?_
                                                                    refine p_gstep (j := 4) (t := 137) (by exact rfl) (by exact rfl) (by exact rfl) (et (gS rfl (gS rfl (gS rfl (gS rfl (gS rfl g0))))) rfl) rfl (y_loadR agg_25 sz_25 (et g0 rfl) (by rw [length_bL, length_be]) (atSR (k2.row rT1))) ?_
                                                                    refine p_gstep (j := 4) (t := 137) (by exact rfl) (by exact rfl) (by exact rfl) (et (gS rfl (gS rfl (gS rfl (gS rfl (gS rfl (gS rfl g0)))))) rfl) rfl (y_loadB agg_65 sz_65 (et (gS rfl (gS rfl (gS rfl (gS rfl (gS rfl (gS rfl (gS rfl (gS rfl (gS rfl (gS rfl (gS rfl (gS rfl (gS rfl (gS rfl g0)))))))))))))) rfl) rfl (atSB k177)) ?_
                                                                    refine p_geff (j := 4) (t := 137) (by exact rfl) (by exact rfl) (by exact rfl) (et (gS rfl (gS rfl (gS rfl (gS rfl (gS rfl (gS rfl (gS rfl g0))))))) rfl) rfl (e_callV cal_99 (aC (et (gS rfl (gS rfl (gS rfl g0))) rfl) (aC (et (gS rfl g0) rfl) aN)) (hba ▸ v_balance hV ho T.frm tok.frm)) (fun v205 w205 h205 => ?_)
                                                                    obtain ⟨rfl, u205⟩ := h205
                                                                    replace G := G.tr (Go.ofUp hF u205)
                                                                    replace hF := hF.up u205
                                                                    replace k2 := k2.up u205
                                                                    replace k3 := k3.up u205
                                                                    replace k163 := k163.up u205
                                                                    replace k164 := k164.up u205
                                                                    replace k169 := k169.up u205
                                                                    replace k173 := k173.up u205
                                                                    replace k177 := k177.up u205
                                                                    replace hV := hV.up u205
                                                                    replace U := U.tr u205
                                                                    refine ⟨.inr (SU.tr u205), ?_⟩
                                                                    replace SU := SU.tr u205
                                                                    refine p_geff (j := 4) (t := 137) (by exact rfl) (by exact rfl) (by exact rfl) (et (gS rfl (gS rfl (gS rfl (gS rfl (gS rfl (gS rfl (gS rfl (gS rfl g0)))))))) rfl) rfl (e_callV cal_112 (aC (et g0 rfl) (aC (et (gS rfl g0) rfl) aN)) (lt_spec _ _ _ hbl (Nat.mod_lt _ (by decide)))) (fun v206 w206 h206 => ?_)
                                                                    obtain ⟨rfl, u206⟩ := h206
                                                                    replace G := G.tr (Go.ofUp hF u206)
                                                                    replace hF := hF.up u206
                                                                    replace k2 := k2.up u206
                                                                    replace k3 := k3.up u206
                                                                    replace k163 := k163.up u206
                                                                    replace k164 := k164.up u206
                                                                    replace k169 := k169.up u206
                                                                    replace k173 := k173.up u206
                                                                    replace k177 := k177.up u206
                                                                    replace hV := hV.up u206
                                                                    replace U := U.tr u206
                                                                    refine ⟨.inr (SU.tr u206), ?_⟩
                                                                    replace SU := SU.tr u206
                                                                    exact (by
                                                                      refine p_step (by exact rfl) (y_pickF (et (gS rfl (gS rfl (gS rfl (gS rfl (gS rfl (gS rfl (gS rfl (gS rfl (gS rfl g0))))))))) rfl) (et g0 rfl)) ?_
                                                                      refine p_step (by exact rfl) (y_assignV (et g0 rfl)) ?_
                                                                      refine p_nil ?_
                                                                      refine hK193 _ _ ?_
                                                                      refine fg5 5 7 8 9 132 (gS rfl (gS rfl (gS rfl (gS rfl (gS rfl (gS rfl (gS rfl (gS rfl (gS rfl (gS rfl (gS rfl (gS rfl (gS rfl (gS rfl (gS rfl (gS rfl (gS rfl (gS rfl (gS rfl (gS rfl (gS rfl (gS rfl (gS rfl (gS rfl g0)))))))))))))))))))))))) (gS rfl (gS rfl (gS rfl (gS rfl (gS rfl (gS rfl (gS rfl (gS rfl (gS rfl (gS rfl (gS rfl (gS rfl (gS rfl (gS rfl (gS rfl (gS rfl (gS rfl (gS rfl (gS rfl (gS rfl (gS rfl (gS rfl (gS rfl g0))))))))))))))))))))))) (gS rfl (gS rfl (gS rfl (gS rfl (gS rfl (gS rfl (gS rfl (gS rfl (gS rfl (gS rfl (gS rfl (gS rfl (gS rfl (gS rfl (gS rfl (gS rfl (gS rfl (gS rfl (gS rfl (gS rfl (gS rfl (gS rfl g0)))))))))))))))))))))) (gS rfl (gS rfl (gS rfl (gS rfl (gS rfl (gS rfl (gS rfl (gS rfl (gS rfl (gS rfl (gS rfl (gS rfl (gS rfl (gS rfl (gS rfl (gS rfl (gS rfl (gS rfl (gS rfl (gS rfl (gS rfl g0))))))))))))))))))))) g0 (fun g => ?_)
                                                                      refine c_condV (i := 132) g0 rfl (fun cB10 => ?_) (fun cB10 => ?_)
                                                                      · skip
                                                                        
                                                                        have e10 : (vdA s T).bal < T.gas * feeM T + T.value := by have h9 := of_decide_eq_true cB10; rw [hmd8] at h9; exact h9
                                                                        refine c_seq (fun K208 hK208 => ?_)
                                                                        exact (by
                                                                          refine c_draw Up 2 [(0, true), (1, true), (2, false)] (by kernel_rfl) (fun w209 hu => ⟨Up.refl _, ?_⟩)
                                                                          replace G := G.tr (Go.ofUp hF hu)
                                                                          replace hF := hF.up hu
                                                                          replace k2 := k2.up hu
                                                                          replace k3 := k3.up hu
                                                                          replace k163 := k163.up hu
                                                                          replace k164 := k164.up hu
                                                                          replace k169 := k169.up hu
                                                                          replace k173 := k173.up hu
                                                                          replace k177 := k177.up hu
                                                                          replace hV := hV.up hu
                                                                          replace U := U.tr hu
                                                                          have SU := Up.refl w209
                                                                          refine p_step (by exact rfl) (y_loadB agg_65 sz_65 (et (gS rfl (gS rfl (gS rfl (gS rfl (gS rfl g0))))) rfl) rfl (atSB k3)) ?_
                                                                          refine p_step (by exact rfl) y_assignC ?_
                                                                          refine p_effN (by exact rfl) (e_storeS sz_65 (et (gS rfl (gS rfl (gS rfl (gS rfl (gS rfl (gS rfl (gS rfl g0))))))) rfl) (cellsV (et (gS rfl g0) rfl) rfl) rfl (by exact one_uL _) k3) (fun v210 w210 h210 => ?_)
                                                                          obtain ⟨rfl, x210⟩ := h210
                                                                          replace G := G.tr (Go.ofUp hF x210)
                                                                          replace hF := hF.up x210
                                                                          replace k2 := k2.up x210
                                                                          replace k3 := k3.up x210
                                                                          replace k163 := k163.up x210
                                                                          replace k164 := k164.up x210
                                                                          replace k169 := k169.up x210
                                                                          replace k173 := k173.up x210
                                                                          replace k177 := k177.up x210
                                                                          replace hV := hV.up x210
                                                                          replace U := U.tr x210
                                                                          refine ⟨.inl rfl, ?_⟩
                                                                          refine p_nil ?_
                                                                          refine hK208 _ _ ?_
                                                                          refine fg2 5 4 (gS rfl (gS rfl (gS rfl (gS rfl (gS rfl (gS rfl (gS rfl g0))))))) g0 (fun g => ?_)
                                                                          refine c_ret ?_
                                                                          refine hQ192 _ _ _ (in_ret ?_)
                                                                          repeat with_reducible refine then_ret ?_
                                                                          refine ret2 rfl (res_tmp (et g0 rfl)) (res_blk agg_65 sz_65 (et (gS rfl g0) rfl) (by first | (simp only [Value.cells, hV, aV, bV, wV, wL, List.size_toArray, length_bL, length_uL, length_be, size_spl, List.length_cons, List.length_nil, List.length_replicate, Nat.zero_add, Nat.reduceAdd, Nat.reduceLeDiff, Nat.le_refl]; done) | rfl) k3) ?_
                                                                          have hvd : verdN s T = 10 := by rw [verdN, if_neg (fun h => h hph), if_neg e2, if_neg e3, if_neg e4, if_neg e5, if_neg e6, if_neg e7, if_neg e8, if_neg e9, if_pos e10]
                                                                          exact ⟨_, 0, by rw [hvd]; rfl, fun h9 => by omega, G⟩)
                                                                      · skip
                                                                        
                                                                        have e10 : ¬ ((vdA s T).bal < T.gas * feeM T + T.value) := by have h9 := of_decide_eq_false cB10; rw [hmd8] at h9; exact h9
                                                                        refine c_seq (fun K211 hK211 => ?_)
                                                                        exact (by
                                                                          refine c_region ?_
                                                                          refine l_step (y_loadB agg_65 sz_65 (et (gS rfl (gS rfl (gS rfl g0))) rfl) rfl (at1B k164)) ?_
                                                                          refine l_step (y_loadB agg_65 sz_65 (et (gS rfl (gS rfl (gS rfl (gS rfl (gS rfl g0))))) rfl) rfl (at1B k163)) ?_
                                                                          refine l_eff (e_callV cal_165 (aC (et (gS rfl g0) rfl) (aC (et g0 rfl) aN)) (gt_spec _ _ _ hTi hM)) (fun v212 w212 h212 => ?_)
                                                                          obtain ⟨rfl, u212⟩ := h212
                                                                          replace G := G.tr (Go.ofUp hF u212)
                                                                          replace hF := hF.up u212
                                                                          replace k2 := k2.up u212
                                                                          replace k3 := k3.up u212
                                                                          replace k163 := k163.up u212
                                                                          replace k164 := k164.up u212
                                                                          replace k169 := k169.up u212
                                                                          replace k173 := k173.up u212
                                                                          replace k177 := k177.up u212
                                                                          replace hV := hV.up u212
                                                                          replace U := U.tr u212
                                                                          refine l_step (y_assignV (et g0 rfl)) ?_
                                                                          refine l_nil ?_
                                                                          refine hK211 _ _ ?_
                                                                          refine fg5 5 7 8 9 149 (gS rfl (gS rfl (gS rfl (gS rfl (gS rfl (gS rfl (gS rfl (gS rfl (gS rfl g0))))))))) (gS rfl (gS rfl (gS rfl (gS rfl (gS rfl (gS rfl (gS rfl (gS rfl g0)))))))) (gS rfl (gS rfl (gS rfl (gS rfl (gS rfl (gS rfl (gS rfl g0))))))) (gS rfl (gS rfl (gS rfl (gS rfl (gS rfl (gS rfl g0)))))) g0 (fun g => ?_)
                                                                          refine c_condV (i := 149) g0 rfl (fun cB11 => ?_) (fun cB11 => ?_)
                                                                          · skip
                                                                            
                                                                            have e11 : feeM T < feeT T := of_decide_eq_true cB11
                                                                            refine c_seq (fun K214 hK214 => ?_)
                                                                            exact (by
                                                                              refine c_draw Up 2 [(0, true), (1, true), (2, false)] (by kernel_rfl) (fun w215 hu => ⟨Up.refl _, ?_⟩)
                                                                              replace G := G.tr (Go.ofUp hF hu)
                                                                              replace hF := hF.up hu
                                                                              replace k2 := k2.up hu
                                                                              replace k3 := k3.up hu
                                                                              replace k163 := k163.up hu
                                                                              replace k164 := k164.up hu
                                                                              replace k169 := k169.up hu
                                                                              replace k173 := k173.up hu
                                                                              replace k177 := k177.up hu
                                                                              replace hV := hV.up hu
                                                                              replace U := U.tr hu
                                                                              have SU := Up.refl w215
                                                                              refine p_step (by exact rfl) (y_loadB agg_65 sz_65 (et (gS rfl (gS rfl (gS rfl (gS rfl (gS rfl g0))))) rfl) rfl (atSB k3)) ?_
                                                                              refine p_step (by exact rfl) y_assignC ?_
                                                                              refine p_effN (by exact rfl) (e_storeS sz_65 (et (gS rfl (gS rfl (gS rfl (gS rfl (gS rfl (gS rfl (gS rfl g0))))))) rfl) (cellsV (et (gS rfl g0) rfl) rfl) rfl (by exact one_uL _) k3) (fun v216 w216 h216 => ?_)
                                                                              obtain ⟨rfl, x216⟩ := h216
                                                                              replace G := G.tr (Go.ofUp hF x216)
                                                                              replace hF := hF.up x216
                                                                              replace k2 := k2.up x216
                                                                              replace k3 := k3.up x216
                                                                              replace k163 := k163.up x216
                                                                              replace k164 := k164.up x216
                                                                              replace k169 := k169.up x216
                                                                              replace k173 := k173.up x216
                                                                              replace k177 := k177.up x216
                                                                              replace hV := hV.up x216
                                                                              replace U := U.tr x216
                                                                              refine ⟨.inl rfl, ?_⟩
                                                                              refine p_nil ?_
                                                                              refine hK214 _ _ ?_
                                                                              refine fg2 5 4 (gS rfl (gS rfl (gS rfl (gS rfl (gS rfl (gS rfl (gS rfl g0))))))) g0 (fun g => ?_)
                                                                              refine c_ret ?_
                                                                              refine hQ192 _ _ _ (in_ret ?_)
                                                                              repeat with_reducible refine then_ret ?_
                                                                              refine ret2 rfl (res_tmp (et g0 rfl)) (res_blk agg_65 sz_65 (et (gS rfl g0) rfl) (by first | (simp only [Value.cells, hV, aV, bV, wV, wL, List.size_toArray, length_bL, length_uL, length_be, size_spl, List.length_cons, List.length_nil, List.length_replicate, Nat.zero_add, Nat.reduceAdd, Nat.reduceLeDiff, Nat.le_refl]; done) | rfl) k3) ?_
                                                                              have hvd : verdN s T = 11 := by rw [verdN, if_neg (fun h => h hph), if_neg e2, if_neg e3, if_neg e4, if_neg e5, if_neg e6, if_neg e7, if_neg e8, if_neg e9, if_neg e10, if_pos e11]
                                                                              exact ⟨_, 0, by rw [hvd]; rfl, fun h9 => by omega, G⟩)
                                                                          · skip
                                                                            
                                                                            have e11 : ¬ (feeM T < feeT T) := of_decide_eq_false cB11
                                                                            refine c_seq (fun K217 hK217 => ?_)
                                                                            exact (by
                                                                              refine c_region ?_
                                                                              refine l_step (y_loadB agg_65 sz_65 (et (gS rfl (gS rfl (gS rfl (gS rfl g0)))) rfl) rfl (at1B k163)) ?_
                                                                              refine l_step (y_loadB agg_65 sz_65 (et (gS rfl (gS rfl (gS rfl g0))) rfl) rfl (at1B k169)) ?_
                                                                              refine l_eff (e_callV cal_112 (aC (et (gS rfl g0) rfl) (aC (et g0 rfl) aN)) (lt_spec _ _ _ hM eo.baseFee)) (fun v218 w218 h218 => ?_)
                                                                              obtain ⟨rfl, u218⟩ := h218
                                                                              replace G := G.tr (Go.ofUp hF u218)
                                                                              replace hF := hF.up u218
                                                                              replace k2 := k2.up u218
                                                                              replace k3 := k3.up u218
                                                                              replace k163 := k163.up u218
                                                                              replace k164 := k164.up u218
                                                                              replace k169 := k169.up u218
                                                                              replace k173 := k173.up u218
                                                                              replace k177 := k177.up u218
                                                                              replace hV := hV.up u218
                                                                              replace U := U.tr u218
                                                                              refine l_step (y_assignV (et g0 rfl)) ?_
                                                                              refine l_nil ?_
                                                                              refine hK217 _ _ ?_
                                                                              refine fg5 5 7 8 9 154 (gS rfl (gS rfl (gS rfl (gS rfl (gS rfl (gS rfl (gS rfl (gS rfl (gS rfl g0))))))))) (gS rfl (gS rfl (gS rfl (gS rfl (gS rfl (gS rfl (gS rfl (gS rfl g0)))))))) (gS rfl (gS rfl (gS rfl (gS rfl (gS rfl (gS rfl (gS rfl g0))))))) (gS rfl (gS rfl (gS rfl (gS rfl (gS rfl (gS rfl g0)))))) g0 (fun g => ?_)
                                                                              refine c_condV (i := 154) g0 rfl (fun cB12 => ?_) (fun cB12 => ?_)
                                                                              · skip
                                                                                
                                                                                have e12 : feeM T < s.env.baseFee := of_decide_eq_true cB12
                                                                                refine c_seq (fun K220 hK220 => ?_)
                                                                                exact (by
                                                                                  refine c_draw Up 2 [(0, true), (1, true), (2, false)] (by kernel_rfl) (fun w221 hu => ⟨Up.refl _, ?_⟩)
                                                                                  replace G := G.tr (Go.ofUp hF hu)
                                                                                  replace hF := hF.up hu
                                                                                  replace k2 := k2.up hu
                                                                                  replace k3 := k3.up hu
                                                                                  replace k163 := k163.up hu
                                                                                  replace k164 := k164.up hu
                                                                                  replace k169 := k169.up hu
                                                                                  replace k173 := k173.up hu
                                                                                  replace k177 := k177.up hu
                                                                                  replace hV := hV.up hu
                                                                                  replace U := U.tr hu
                                                                                  have SU := Up.refl w221
                                                                                  refine p_step (by exact rfl) (y_loadB agg_65 sz_65 (et (gS rfl (gS rfl (gS rfl (gS rfl (gS rfl g0))))) rfl) rfl (atSB k3)) ?_
                                                                                  refine p_step (by exact rfl) y_assignC ?_
                                                                                  refine p_effN (by exact rfl) (e_storeS sz_65 (et (gS rfl (gS rfl (gS rfl (gS rfl (gS rfl (gS rfl (gS rfl g0))))))) rfl) (cellsV (et (gS rfl g0) rfl) rfl) rfl (by exact one_uL _) k3) (fun v222 w222 h222 => ?_)
                                                                                  obtain ⟨rfl, x222⟩ := h222
                                                                                  replace G := G.tr (Go.ofUp hF x222)
                                                                                  replace hF := hF.up x222
                                                                                  replace k2 := k2.up x222
                                                                                  replace k3 := k3.up x222
                                                                                  replace k163 := k163.up x222
                                                                                  replace k164 := k164.up x222
                                                                                  replace k169 := k169.up x222
                                                                                  replace k173 := k173.up x222
                                                                                  replace k177 := k177.up x222
                                                                                  replace hV := hV.up x222
                                                                                  replace U := U.tr x222
                                                                                  refine ⟨.inl rfl, ?_⟩
                                                                                  refine p_nil ?_
                                                                                  refine hK220 _ _ ?_
                                                                                  refine fg2 5 4 (gS rfl (gS rfl (gS rfl (gS rfl (gS rfl (gS rfl (gS rfl g0))))))) g0 (fun g => ?_)
                                                                                  refine c_ret ?_
                                                                                  refine hQ192 _ _ _ (in_ret ?_)
                                                                                  repeat with_reducible refine then_ret ?_
                                                                                  refine ret2 rfl (res_tmp (et g0 rfl)) (res_blk agg_65 sz_65 (et (gS rfl g0) rfl) (by first | (simp only [Value.cells, hV, aV, bV, wV, wL, List.size_toArray, length_bL, length_uL, length_be, size_spl, List.length_cons, List.length_nil, List.length_replicate, Nat.zero_add, Nat.reduceAdd, Nat.reduceLeDiff, Nat.le_refl]; done) | rfl) k3) ?_
                                                                                  have hvd : verdN s T = 12 := by rw [verdN, if_neg (fun h => h hph), if_neg e2, if_neg e3, if_neg e4, if_neg e5, if_neg e6, if_neg e7, if_neg e8, if_neg e9, if_neg e10, if_neg e11, if_pos e12]
                                                                                  exact ⟨_, 0, by rw [hvd]; rfl, fun h9 => by omega, G⟩)
                                                                              · skip
                                                                                
                                                                                have e12 : ¬ (feeM T < s.env.baseFee) := of_decide_eq_false cB12
                                                                                refine c_skip ?_
                                                                                refine hQ192 _ _ _ (in_normal ?_)
                                                                                refine hK191 _ _ ?_
                                                                                refine fg4 5 7 8 9 (gS rfl (gS rfl (gS rfl (gS rfl (gS rfl g0))))) (gS rfl (gS rfl (gS rfl (gS rfl g0)))) (gS rfl (gS rfl (gS rfl g0))) (gS rfl (gS rfl g0)) (fun g => ?_)
                                                                                refine c_seq (fun K223 hK223 => ?_)
                                                                                exact (by
                                                                                  refine c_region ?_
                                                                                  refine l_step (y_loadB agg_65 sz_65 (et (gS rfl (gS rfl g0)) rfl) rfl (at1B k163)) ?_
                                                                                  refine l_step (y_loadB agg_65 sz_65 (et (gS rfl g0) rfl) rfl (at1B k169)) ?_
                                                                                  refine l_eff (e_callV cal_98 (aC (et (gS rfl g0) rfl) (aC (et g0 rfl) aN)) (sub_ok _ _ _ hM (by omega))) (fun v224 w224 h224 => ?_)
                                                                                  obtain ⟨rfl, u224⟩ := h224
                                                                                  replace G := G.tr (Go.ofUp hF u224)
                                                                                  replace hF := hF.up u224
                                                                                  replace k2 := k2.up u224
                                                                                  replace k3 := k3.up u224
                                                                                  replace k163 := k163.up u224
                                                                                  replace k164 := k164.up u224
                                                                                  replace k169 := k169.up u224
                                                                                  replace k173 := k173.up u224
                                                                                  replace k177 := k177.up u224
                                                                                  replace hV := hV.up u224
                                                                                  replace U := U.tr u224
                                                                                  refine l_effN (e_store sz_65 (et (gS rfl (gS rfl (gS rfl (gS rfl (gS rfl (gS rfl g0)))))) rfl) (cellsV (et g0 rfl) rfl) rfl (by exact one_uL _) k3 (by exact Nat.le_of_ble_eq_true rfl)) (fun v225 w225 h225 => ?_)
                                                                                  obtain ⟨rfl, x225⟩ := h225
                                                                                  replace k2 := k2.ch x225.ch (by omega)
                                                                                  replace k163 := k163.ch x225.ch (by omega)
                                                                                  replace k164 := k164.ch x225.ch (by omega)
                                                                                  replace k169 := k169.ch x225.ch (by omega)
                                                                                  replace k173 := k173.ch x225.ch (by omega)
                                                                                  replace k177 := k177.ch x225.ch (by omega)
                                                                                  replace hV := hV.ch x225.ch (by first | omega | (intro b hb; first | (subst hb; exact ⟨hnw _ (by omega), fun hh => by have := hfz.lt hh; omega⟩) | (rcases hb with hb | hb <;> (subst hb; exact ⟨hnw _ (by omega), fun hh => by have := hfz.lt hh; omega⟩))))
                                                                                  replace k3 := x225.blk.full rfl
                                                                                  replace G := G.wr x225 (by first | exact .inr f3 | omega | (simp; omega)) nb3
                                                                                  replace hF := G.fz
                                                                                  replace U := U.st x225 f3
                                                                                  refine l_nil ?_
                                                                                  refine hK223 _ _ ?_
                                                                                  refine fg3 5 8 9 (gS rfl (gS rfl (gS rfl (gS rfl (gS rfl (gS rfl g0)))))) (gS rfl (gS rfl (gS rfl (gS rfl g0)))) (gS rfl (gS rfl (gS rfl g0))) (fun g => ?_)
                                                                                  refine c_seq (fun K226 hK226 => ?_)
                                                                                  refine c_seq (fun K227 hK227 => ?_)
                                                                                  exact (by
                                                                                    refine c_region ?_
                                                                                    refine l_step (y_loadB agg_65 sz_65 (et (gS rfl g0) rfl) rfl (at1B k164)) ?_
                                                                                    refine l_step (y_loadB agg_65 sz_65 (et (gS rfl (gS rfl (gS rfl g0))) rfl) rfl (at1B k3)) ?_
                                                                                    refine l_eff (e_callV cal_112 (aC (et (gS rfl g0) rfl) (aC (et g0 rfl) aN)) (lt_spec _ _ _ hTi (by omega))) (fun v228 w228 h228 => ?_)
                                                                                    obtain ⟨rfl, u228⟩ := h228
                                                                                    replace G := G.tr (Go.ofUp hF u228)
                                                                                    replace hF := hF.up u228
                                                                                    replace k2 := k2.up u228
                                                                                    replace k3 := k3.up u228
                                                                                    replace k163 := k163.up u228
                                                                                    replace k164 := k164.up u228
                                                                                    replace k169 := k169.up u228
                                                                                    replace k173 := k173.up u228
                                                                                    replace k177 := k177.up u228
                                                                                    replace hV := hV.up u228
                                                                                    replace U := U.tr u228
                                                                                    refine l_nil ?_
                                                                                    refine hK227 _ _ ?_
                                                                                    refine fg4 5 8 9 164 (gS rfl (gS rfl (gS rfl (gS rfl (gS rfl g0))))) (gS rfl (gS rfl (gS rfl (gS rfl g0)))) (gS rfl (gS rfl (gS rfl g0))) g0 (fun g => ?_)
                                                                                    refine c_condV (i := 164) g0 rfl (fun cB13 => ?_) (fun cB13 => ?_)
                                                                                    · skip
                                                                                      
                                                                                      have e13 : feeT T < feeM T - s.env.baseFee := of_decide_eq_true cB13
                                                                                      exact (by
                                                                                        refine c_region ?_
                                                                                        refine l_step (y_loadB agg_65 sz_65 (et (gS rfl (gS rfl (gS rfl g0))) rfl) rfl (at1B k164)) ?_
                                                                                        refine l_effN (e_store sz_65 (et (gS rfl (gS rfl (gS rfl (gS rfl (gS rfl g0))))) rfl) (cellsV (et g0 rfl) rfl) rfl (by exact one_uL _) k3 (by exact Nat.le_of_ble_eq_true rfl)) (fun v230 w230 h230 => ?_)
                                                                                        obtain ⟨rfl, x230⟩ := h230
                                                                                        replace k2 := k2.ch x230.ch (by omega)
                                                                                        replace k163 := k163.ch x230.ch (by omega)
                                                                                        replace k164 := k164.ch x230.ch (by omega)
                                                                                        replace k169 := k169.ch x230.ch (by omega)
                                                                                        replace k173 := k173.ch x230.ch (by omega)
                                                                                        replace k177 := k177.ch x230.ch (by omega)
                                                                                        replace hV := hV.ch x230.ch (by first | omega | (intro b hb; first | (subst hb; exact ⟨hnw _ (by omega), fun hh => by have := hfz.lt hh; omega⟩) | (rcases hb with hb | hb <;> (subst hb; exact ⟨hnw _ (by omega), fun hh => by have := hfz.lt hh; omega⟩))))
                                                                                        replace k3 := x230.blk.full rfl
                                                                                        replace G := G.wr x230 (by first | exact .inr f3 | omega | (simp; omega)) nb3
                                                                                        replace hF := G.fz
                                                                                        replace U := U.st x230 f3
                                                                                        refine l_nil ?_
                                                                                        refine hK226 _ _ ?_
                                                                                        refine fg2 5 9 (gS rfl (gS rfl (gS rfl (gS rfl (gS rfl g0))))) (gS rfl (gS rfl (gS rfl g0))) (fun g => ?_)
                                                                                        refine c_seq (fun K231 hK231 => ?_)
                                                                                        exact (by
                                                                                          refine c_region ?_
                                                                                          refine l_step (y_loadB agg_65 sz_65 (et g0 rfl) rfl (at1B k169)) ?_
                                                                                          refine l_step (y_loadB agg_65 sz_65 (et (gS rfl (gS rfl g0)) rfl) rfl (at1B k3)) ?_
                                                                                          refine l_eff (e_callV cal_114 (aC (et (gS rfl g0) rfl) (aC (et g0 rfl) aN)) (add_ok _ _ _ (by omega))) (fun v232 w232 h232 => ?_)
                                                                                          obtain ⟨rfl, u232⟩ := h232
                                                                                          replace G := G.tr (Go.ofUp hF u232)
                                                                                          replace hF := hF.up u232
                                                                                          replace k2 := k2.up u232
                                                                                          replace k3 := k3.up u232
                                                                                          replace k163 := k163.up u232
                                                                                          replace k164 := k164.up u232
                                                                                          replace k169 := k169.up u232
                                                                                          replace k173 := k173.up u232
                                                                                          replace k177 := k177.up u232
                                                                                          replace hV := hV.up u232
                                                                                          replace U := U.tr u232
                                                                                          refine l_step y_assignC ?_
                                                                                          refine l_effN (e_store sz_65 (et (gS rfl (gS rfl (gS rfl (gS rfl (gS rfl g0))))) rfl) (cellsV (et (gS rfl g0) rfl) rfl) rfl (by exact one_uL _) k3 (by exact Nat.le_of_ble_eq_true rfl)) (fun v233 w233 h233 => ?_)
                                                                                          obtain ⟨rfl, x233⟩ := h233
                                                                                          replace k2 := k2.ch x233.ch (by omega)
                                                                                          replace k163 := k163.ch x233.ch (by omega)
                                                                                          replace k164 := k164.ch x233.ch (by omega)
                                                                                          replace k169 := k169.ch x233.ch (by omega)
                                                                                          replace k173 := k173.ch x233.ch (by omega)
                                                                                          replace k177 := k177.ch x233.ch (by omega)
                                                                                          replace hV := hV.ch x233.ch (by first | omega | (intro b hb; first | (subst hb; exact ⟨hnw _ (by omega), fun hh => by have := hfz.lt hh; omega⟩) | (rcases hb with hb | hb <;> (subst hb; exact ⟨hnw _ (by omega), fun hh => by have := hfz.lt hh; omega⟩))))
                                                                                          replace k3 := x233.blk.full rfl
                                                                                          replace G := G.wr x233 (by first | exact .inr f3 | omega | (simp; omega)) nb3
                                                                                          replace hF := G.fz
                                                                                          replace U := U.st x233 f3
                                                                                          refine l_nil ?_
                                                                                          refine hK231 _ _ ?_
                                                                                          refine fg2 5 4 (gS rfl (gS rfl (gS rfl (gS rfl (gS rfl g0))))) g0 (fun g => ?_)
                                                                                          refine c_ret ?_
                                                                                          repeat with_reducible refine then_ret ?_
                                                                                          refine ret2 rfl (res_tmp (et g0 rfl)) (res_blk agg_65 sz_65 (et (gS rfl g0) rfl) (by first | (simp only [Value.cells, hV, aV, bV, wV, wL, List.size_toArray, length_bL, length_uL, length_be, size_spl, List.length_cons, List.length_nil, List.length_replicate, Nat.zero_add, Nat.reduceAdd, Nat.reduceLeDiff, Nat.le_refl]; done) | rfl) k3) ?_
                                                                                          have hvd : verdN s T = 0 := by rw [verdN, if_neg (fun h => h hph), if_neg e2, if_neg e3, if_neg e4, if_neg e5, if_neg e6, if_neg e7, if_neg e8, if_neg e9, if_neg e10, if_neg e11, if_neg e12]
                                                                                          have hpr : s.env.baseFee + feeT T = priceN s T := by rw [priceN, Nat.min_eq_left (by omega)]
                                                                                          exact ⟨_, _, by rw [hvd, ← hpr]; rfl, fun _ => rfl, G⟩))
                                                                                    · skip
                                                                                      
                                                                                      have e13 : ¬ feeT T < feeM T - s.env.baseFee := of_decide_eq_false cB13
                                                                                      refine c_skip ?_
                                                                                      refine hK226 _ _ ?_
                                                                                      refine fg2 5 9 (gS rfl (gS rfl (gS rfl (gS rfl g0)))) (gS rfl (gS rfl g0)) (fun g => ?_)
                                                                                      refine c_seq (fun K234 hK234 => ?_)
                                                                                      exact (by
                                                                                        refine c_region ?_
                                                                                        refine l_step (y_loadB agg_65 sz_65 (et g0 rfl) rfl (at1B k169)) ?_
                                                                                        refine l_step (y_loadB agg_65 sz_65 (et (gS rfl (gS rfl g0)) rfl) rfl (at1B k3)) ?_
                                                                                        refine l_eff (e_callV cal_114 (aC (et (gS rfl g0) rfl) (aC (et g0 rfl) aN)) (add_ok _ _ _ (by omega))) (fun v235 w235 h235 => ?_)
                                                                                        obtain ⟨rfl, u235⟩ := h235
                                                                                        replace G := G.tr (Go.ofUp hF u235)
                                                                                        replace hF := hF.up u235
                                                                                        replace k2 := k2.up u235
                                                                                        replace k3 := k3.up u235
                                                                                        replace k163 := k163.up u235
                                                                                        replace k164 := k164.up u235
                                                                                        replace k169 := k169.up u235
                                                                                        replace k173 := k173.up u235
                                                                                        replace k177 := k177.up u235
                                                                                        replace hV := hV.up u235
                                                                                        replace U := U.tr u235
                                                                                        refine l_step y_assignC ?_
                                                                                        refine l_effN (e_store sz_65 (et (gS rfl (gS rfl (gS rfl (gS rfl (gS rfl g0))))) rfl) (cellsV (et (gS rfl g0) rfl) rfl) rfl (by exact one_uL _) k3 (by exact Nat.le_of_ble_eq_true rfl)) (fun v236 w236 h236 => ?_)
                                                                                        obtain ⟨rfl, x236⟩ := h236
                                                                                        replace k2 := k2.ch x236.ch (by omega)
                                                                                        replace k163 := k163.ch x236.ch (by omega)
                                                                                        replace k164 := k164.ch x236.ch (by omega)
                                                                                        replace k169 := k169.ch x236.ch (by omega)
                                                                                        replace k173 := k173.ch x236.ch (by omega)
                                                                                        replace k177 := k177.ch x236.ch (by omega)
                                                                                        replace hV := hV.ch x236.ch (by first | omega | (intro b hb; first | (subst hb; exact ⟨hnw _ (by omega), fun hh => by have := hfz.lt hh; omega⟩) | (rcases hb with hb | hb <;> (subst hb; exact ⟨hnw _ (by omega), fun hh => by have := hfz.lt hh; omega⟩))))
                                                                                        replace k3 := x236.blk.full rfl
                                                                                        replace G := G.wr x236 (by first | exact .inr f3 | omega | (simp; omega)) nb3
                                                                                        replace hF := G.fz
                                                                                        replace U := U.st x236 f3
                                                                                        refine l_nil ?_
                                                                                        refine hK234 _ _ ?_
                                                                                        refine fg2 5 4 (gS rfl (gS rfl (gS rfl (gS rfl (gS rfl g0))))) g0 (fun g => ?_)
                                                                                        refine c_ret ?_
                                                                                        repeat with_reducible refine then_ret ?_
                                                                                        refine ret2 rfl (res_tmp (et g0 rfl)) (res_blk agg_65 sz_65 (et (gS rfl g0) rfl) (by first | (simp only [Value.cells, hV, aV, bV, wV, wL, List.size_toArray, length_bL, length_uL, length_be, size_spl, List.length_cons, List.length_nil, List.length_replicate, Nat.zero_add, Nat.reduceAdd, Nat.reduceLeDiff, Nat.le_refl]; done) | rfl) k3) ?_
                                                                                        have hvd : verdN s T = 0 := by rw [verdN, if_neg (fun h => h hph), if_neg e2, if_neg e3, if_neg e4, if_neg e5, if_neg e6, if_neg e7, if_neg e8, if_neg e9, if_neg e10, if_neg e11, if_neg e12]
                                                                                        have hpr : s.env.baseFee + (feeM T - s.env.baseFee) = priceN s T := by rw [priceN, Nat.min_eq_right (by omega)]
                                                                                        exact ⟨_, _, by rw [hvd, ← hpr]; rfl, fun _ => rfl, G⟩))))))))))))))))))))))))))
end Go.Proofs.YgvaawGreat
