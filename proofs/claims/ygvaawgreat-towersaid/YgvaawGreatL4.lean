import Derived.Test.YgvaawGreatL3
import Derived.Test.YgvaawGreatX7
set_option maxRecDepth 100000
set_option maxHeartbeats 4000000
set_option linter.unusedSimpArgs false
set_option linter.unusedVariables false
namespace Go.Proofs.YgvaawGreat
open Go
def P_tx : Cp YTx := fun H c T => TC H c.toArray T
theorem mono_tx : Mono P_tx := fun _ _ _ _ hl h => h.mono hl
theorem mc_tx : MC P_tx := ⟨mono_tx⟩
theorem run_equalN {T e : Nat} {w : World} (hU : Hvaa.prog.underlying T = some (.pointer e)) : (Op.equal T (.pointer none) (.pointer none)).run Hvaa.prog w = .ok true w := by
  unfold Op.equal
  rw [show Op.maxDepth = 9999 + 1 from rfl]
  unfold Op.equalIn
  simp [run_underlying hU]
section
variable {S : World → Prop} {n : Nat} {s : Nat → Value} {d : Option Nat} {ty : TypeId} {pos : String} {af : Array Edge} {g : Option (Nat × Bool)}
theorem y_eqlPo {x y : Operand} {T T' e : Nat} {a : Option Addr} (hU : Hvaa.prog.underlying T = some (.pointer e)) (hx : ev n s x = .pointer a) (hy : ev n s y = .pointer none) : Yv S n s ⟨d, .binOp .eql T x y T', ty, pos, af, g⟩ (.bool a.isNone) := by
  cases a with
  | some b => exact y_eqlNil hU hx hy
  | none => exact fun w _ => by simp [execOp, hx, hy, eqGuard, binOp, run_equalN hU]
end
theorem rcC_one {ver sts used made : Nat} {vo vl : Value} (h1 : vo.one1 = true) (h2 : vl.one1 = true) : ∀ v ∈ rcC ver sts used vo vl made, v.one1 = true := by
  intro v hv
  unfold rcC at hv
  rcases List.mem_append.1 hv with h | h
  · simp only [List.mem_cons, List.not_mem_nil, or_false] at h
    rcases h with h | h | h | h | h
    · rw [h]; rfl
    · rw [h]; rfl
    · rw [h]; rfl
    · rw [h]; exact h1
    · rw [h]; exact h2
  · exact one_bL _ v h
/-- what a loop over the transactions keeps -/
structure TwI (w : World) (W : World) (H : Store) (col : Nat → Nat) (bc bs : Nat) (s : YSt) : Prop where
  b : Bth W H col bc bs s
  z : ∀ b, b < w.heap.size → col b = 0
theorem tx_one {H : Store} {c : List Value} {T : YTx} (h : P_tx H c T) (hl : c.length = 174) : ∀ v ∈ c, v.one1 = true := by
  obtain ⟨da, dc, aa, ac, r1, r2, r3, r4, r5, r6, r7, r8, r9, _⟩ := TC.ex h
  have e : c.toArray = (bL (be 20 T.frm) ++ (bL (be 20 T.to) ++ ([Value.bool T.create, Value.int .u64 (T.nonce : Nat), Value.int .u64 (T.gas : Nat)] ++ (bL (be 32 T.price) ++ (bL (be 32 T.value) ++ ([Value.slice da T.data.length dc, Value.bool T.dynamic] ++ (bL (be 32 T.maxFee) ++ (bL (be 32 T.tip) ++ [Value.slice aa T.access.length ac])))))))).toArray := by
    refine RowIn.all ?_ (by simp only [List.length_append, length_bL, length_be, List.length_cons, List.length_nil, List.size_toArray, hl])
    refine RowIn.join r1 ?_ (by rw [length_bL, length_be] : 20 = 0 + (bL (be 20 T.frm)).length)
    refine RowIn.join r2 ?_ (by rw [length_bL, length_be] : 40 = 20 + (bL (be 20 T.to)).length)
    refine RowIn.join r3 ?_ (rfl : 43 = 40 + 3)
    refine RowIn.join r4 ?_ (by rw [length_bL, length_be] : 75 = 43 + (bL (be 32 T.price)).length)
    refine RowIn.join r5 ?_ (by rw [length_bL, length_be] : 107 = 75 + (bL (be 32 T.value)).length)
    refine RowIn.join r6 ?_ (rfl : 109 = 107 + 2)
    refine RowIn.join r7 ?_ (by rw [length_bL, length_be] : 141 = 109 + (bL (be 32 T.maxFee)).length)
    exact RowIn.join r8 r9 (by rw [length_bL, length_be] : 173 = 141 + (bL (be 32 T.tip)).length)
  have e2 := congrArg Array.toList e
  simp only [List.toList_toArray] at e2
  rw [e2]
  refine one_cat (one_bL _) (one_cat (one_bL _) (one_cat ?_ (one_cat (one_bL _) (one_cat (one_bL _) (one_cat (one_two rfl rfl) (one_cat (one_bL _) (one_cat (one_bL _) (one_sgl rfl))))))))
  intro v hv
  simp only [List.mem_cons, List.not_mem_nil, or_false] at hv
  rcases hv with h | h | h <;> (rw [h]; rfl)
theorem law_tower {w : World} {H : Store} (hF : Fz w H) {l : List YAcct} {Ts : List YTx} {wa ha ta : Option Addr} {wc hc tc : Nat} {e : YEnv} (hW : LV P_oacct 55 H (.slice wa l.length wc) l) (hlm : l.length < 9223372036854775808) (heb : EB e) (hH : LV P_word 32 H (.slice ha e.hashes.length hc) e.hashes) (hT : LV P_tx 174 H (.slice ta Ts.length tc) Ts) (hTn : Ts.length ≤ tc) (hTc : tc < 9223372036854775808) :
    Ret 3 [(.slice wa l.length wc), .agg (envC e (.slice ha e.hashes.length hc)).toArray, (.slice ta Ts.length tc)] w (fun v w' => v = .bool true ∧ Up w w') := by
  refine enter (n := 44) Hvaa.func3 rfl rfl (Nat.le_of_ble_eq_true rfl) ?_
  have U := Up.refl w
  have G : Go (No) w H w H := Go.refl hF
  have hL0 : Le H H := Le.refl H
  refine c_seq (fun K1 hK1 => ?_)
  exact (by
    refine c_region ?_
    refine l_eff (e_boxV (et (gS rfl g0) rfl)) (fun v2 w2 h2 => ?_)
    obtain ⟨b2, rfl, n2⟩ := h2
    have f2 : w.heap.size ≤ b2 := Nat.le_trans U.size n2.fresh
    have nb2 := hF.nb n2.fresh
    replace G := G.tr (Go.ofUp hF n2.up)
    replace hF := hF.up n2.up
    replace U := U.tr n2.up
    have k2 := n2.blk
    replace k2 : Blk w2 b2 (envC e (.slice ha e.hashes.length hc)).toArray := k2
    refine l_step y_assignC ?_
    refine l_nil ?_
    refine hK1 _ _ ?_
    refine fg3 2 0 4 (gS rfl (gS rfl (gS rfl (gS rfl g0)))) (gS rfl (gS rfl g0)) (gS rfl g0) (fun g => ?_)
    refine c_seq (fun K3 hK3 => ?_)
    exact (by
      refine c_region ?_
      refine l_step (y_moveV (et (gS rfl g0) rfl)) ?_
      refine l_step (y_loadB agg_31 sz_31 (et (gS rfl g0) rfl) (by rw [List.size_toArray, envC_len]) (at1B k2)) ?_
      have wq := U.size
      refine l_eff (e_callV cal_4 (aC (et (gS rfl g0) rfl) (aC (et g0 rfl) aN)) (law_both hF (hW.mono hL0) hlm heb (hH.mono hL0))) (fun v4 w4 h4 => ?_)
      obtain ⟨t1, po, qo, H4, rfl, g4, ht1, hp0, hp1⟩ := h4
      have hlew4 := g4.le
      replace nb2 := g4.nb nb2 k2.lt
      replace hL0 := hL0.trans hlew4
      replace k2 := k2.up g4.up
      replace U := U.tr g4.up
      replace G := G.tr g4
      replace hF := g4.fz
      refine l_step (y_moveV (et g0 rfl)) ?_
      refine l_step (y_ext (et g0 rfl) rfl) ?_
      refine l_step (y_ext (et (gS rfl g0) rfl) rfl) ?_
      refine l_step (y_ext (et (gS rfl (gS rfl g0)) rfl) rfl) ?_
      refine l_step (y_assignV (et (gS rfl (gS rfl g0)) rfl)) ?_
      refine l_step (y_assignV (et (gS rfl (gS rfl g0)) rfl)) ?_
      refine l_step (y_assignV (et (gS rfl (gS rfl g0)) rfl)) ?_
      refine l_nil ?_
      refine hK3 _ _ ?_
      refine fg4 2 7 8 9 (gS rfl (gS rfl (gS rfl (gS rfl (gS rfl (gS rfl (gS rfl (gS rfl (gS rfl (gS rfl (gS rfl (gS rfl g0)))))))))))) (gS rfl (gS rfl g0)) (gS rfl g0) g0 (fun g => ?_)
      refine c_seq (fun K5 hK5 => ?_)
      refine c_seq (fun K6 hK6 => ?_)
      exact (by
        refine c_region ?_
        refine l_step (y_moveV (et (gS rfl (gS rfl g0)) rfl)) ?_
        refine l_step (y_eqlPo Hvaa.underlying33 (et g0 rfl) rfl) ?_
        refine l_nil ?_
        refine hK6 _ _ ?_
        refine fg5 2 7 8 9 21 (gS rfl (gS rfl (gS rfl (gS rfl (gS rfl g0))))) (gS rfl (gS rfl (gS rfl (gS rfl g0)))) (gS rfl (gS rfl (gS rfl g0))) (gS rfl (gS rfl g0)) g0 (fun g => ?_)
        refine c_cond (et g0 rfl) (fun cB1 => ?_) (fun cB1 => ?_)
        · skip
          
          have hq0 := cB1
          refine c_seq (fun K8 hK8 => ?_)
          exact (by
            refine c_region ?_
            refine l_step (y_moveV (et (gS rfl g0) rfl)) ?_
            refine l_step (y_assignV (et g0 rfl)) ?_
            refine l_nil ?_
            refine hK8 _ _ ?_
            refine fg1 6 g0 (fun g => ?_)
            refine c_ret ?_
            repeat with_reducible refine then_ret ?_
            refine ret1 rfl (res_tmp (et g0 rfl)) ?_
            exact ⟨rfl, G.up⟩)
        · skip
          
          have ht8 : t1 = true := by
            cases t1 with
            | true => rfl
            | false => rw [hp0 rfl] at cB1; cases cB1
          obtain ⟨bc, bs, col0, rfl, rfl, fc, fs, hB0, hz0⟩ := hp1 ht8
          have Vx9 : Go No w4 H4 w4 H4 := Go.refl hF
          refine c_skip ?_
          refine hK5 _ _ ?_
          refine fg3 2 7 8 (gS rfl (gS rfl (gS rfl (gS rfl g0)))) (gS rfl (gS rfl (gS rfl g0))) (gS rfl (gS rfl g0)) (fun g => ?_)
          refine c_seq (fun K9 hK9 => ?_)
          refine c_seq (fun K10 hK10 => ?_)
          exact (by
            refine c_region ?_
            refine l_step (y_moveV (et (gS rfl (gS rfl g0)) rfl)) ?_
            refine l_eff (e_callV cal_5 (aC (et g0 rfl) (aC (v := .int .i64 ((4 : Nat) : Int)) rfl aN)) (law_cutTxs _ _ _ 4 _ hTn hTc (by decide))) (fun v11 w11 h11 => ?_)
            obtain ⟨rfl, u11⟩ := h11
            replace G := G.tr (Go.ofUp hF u11)
            replace Vx9 := Vx9.tr (Go.ofUp hF u11)
            replace hF := hF.up u11
            replace U := U.tr u11
            obtain ⟨mt, hmt⟩ : ∃ m, m = (if 4 < Ts.length then 4 else Ts.length) := ⟨_, rfl⟩
            rw [← hmt]
            have hmn : mt ≤ Ts.length := by rw [hmt]; split <;> omega
            have hTw : TwI w w11 _ col0 bc bs (iniY l e) := ⟨hB0.go Vx9, fun b hb => hz0 b (Nat.lt_of_lt_of_le hb wq)⟩
            refine l_step (y_len Hvaa.underlying32 (et g0 rfl)) ?_
            refine l_step y_moveC ?_
            refine l_nil ?_
            refine hK10 _ _ ?_
            refine fg5 7 8 24 25 26 (gS rfl (gS rfl (gS rfl (gS rfl (gS rfl g0))))) (gS rfl (gS rfl (gS rfl (gS rfl g0)))) (gS rfl (gS rfl g0)) (gS rfl g0) g0 (fun g => ?_)
            refine c_block (fun Q12 hQ12 => ?_)
            refine fg5 7 8 24 25 26 (gS rfl (gS rfl (gS rfl (gS rfl g0)))) (gS rfl (gS rfl (gS rfl g0))) (gS rfl (gS rfl g0)) (gS rfl g0) g0 (fun g => ?_)
            refine c_loop (fun k_ s_ W13 => ∃ (g : Nat → Value) (Hk13 : Store) (col1 : Nat → Nat) (s : YSt) (i : Nat), s_ = (upd (upd (upd (upd (upd g 7 (.pointer (some ⟨bc, 0, none⟩))) 8 (.pointer (some ⟨bs, 0, none⟩))) 24 (.slice ta mt tc)) 25 (.int .i64 (mt : Nat))) 26 (.int .i64 (i : Nat))) ∧ mt - i = k_ ∧ (i ≤ mt) ∧ (TwI w W13 Hk13 col1 bc bs s) ∧ Go (fun k => w.heap.size ≤ k) w11 H4 W13 Hk13) (mt - (0)) ?_ ?_
            · exact ⟨g, _, col0, _, 0, rfl, rfl, Nat.zero_le _, hTw, Go.refl hF⟩
            · skip
              intro k_ s_ W13 hI K13 hK13
              obtain ⟨g, Hk13, col1, s, i, rfl, rfl, hi, hTI, V13⟩ := hI
              have hle13 := V13.le
              replace hL0 := hL0.trans hle13
              replace G := G.trans V13 (by intro b hb; first | exact hb.elim | omega | (simp at hb ⊢; omega))
              replace hF := V13.fz
              replace U := U.cc V13.ch (by intro b hb; first | exact hb.elim | omega | (simp at hb ⊢; omega))
              refine c_seq (fun K14 hK14 => ?_)
              exact (by
                refine c_region ?_
                refine l_step (y_lss (et g0 rfl) (et (gS rfl g0) rfl)) ?_
                refine l_nil ?_
                refine hK14 _ _ ?_
                refine c_seq (fun K15 hK15 => ?_)
                refine c_cond (et g0 rfl) (fun cB2 => ?_) (fun cB2 => ?_)
                · skip
                  
                  have hil : i < mt := by have := of_decide_eq_true cB2; omega
                  have Vq9 : Go No W13 Hk13 W13 Hk13 := Go.refl hF
                  obtain ⟨hBa, hza⟩ := hTI
                  have hbs0 := hBa.y.blt
                  obtain ⟨bq, oq, Cq, rq, hta, hBq, hRq, hrl, hTx⟩ := (hT.mono hL0).rowH (i := i) (by omega)
                  refine c_skip ?_
                  refine hK15 _ _ ?_
                  refine fg5 7 8 24 25 26 (gS rfl (gS rfl (gS rfl (gS rfl (gS rfl g0))))) (gS rfl (gS rfl (gS rfl (gS rfl g0)))) (gS rfl (gS rfl (gS rfl g0))) (gS rfl (gS rfl g0)) (gS rfl g0) (fun g => ?_)
                  refine c_seq (fun K17 hK17 => ?_)
                  refine c_block (fun Q18 hQ18 => ?_)
                  refine c_seq (fun K19 hK19 => ?_)
                  exact (by
                    refine c_region ?_
                    refine l_step (y_idxSa hta Hvaa.underlying32 sz_41 (et (gS rfl (gS rfl g0)) rfl) (et g0 rfl) ?_) ?_
                    omega
                    refine l_step (y_loadR agg_41 sz_41 (et g0 rfl) hrl (at1R (hBq.row hF hRq))) ?_
                    refine l_eff (e_alloc zr_41) (fun v20 w20 h20 => ?_)
                    obtain ⟨b20, rfl, n20⟩ := h20
                    have f20 : w.heap.size ≤ b20 := Nat.le_trans U.size n20.fresh
                    have nb20 := hF.nb n20.fresh
                    have fV13_20 := Nat.le_trans V13.ch.size n20.fresh
                    have fVq9_20 := Nat.le_trans Vq9.ch.size n20.fresh
                    replace G := G.tr (Go.ofUp hF n20.up)
                    replace V13 := V13.tr (Go.ofUp hF n20.up)
                    replace Vq9 := Vq9.tr (Go.ofUp hF n20.up)
                    replace hF := hF.up n20.up
                    replace U := U.tr n20.up
                    have k20 := n20.blk
                    obtain ⟨zs20, hz20, k20⟩ : ∃ cs : Array Value, cs.size = 174 ∧ Blk w20 b20 cs := ⟨_, rfl, k20⟩
                    refine l_effN (e_store sz_41 (et g0 rfl) (cellsV (et (gS rfl g0) rfl) rfl) hrl (by exact tx_one hTx hrl) k20 (by (rw [hz20]; exact Nat.le_refl _))) (fun v21 w21 h21 => ?_)
                    obtain ⟨rfl, x21⟩ := h21
                    replace k20 := x21.blk.full (by rw [hrl, hz20])
                    replace G := G.wr x21 (by first | exact .inr f20 | exact .inl rfl | omega | (simp; omega)) nb20
                    replace V13 := V13.wr x21 (by first | exact .inr f20 | exact .inl rfl | omega | (simp; omega)) nb20
                    replace Vq9 := Vq9.wr x21 (by first | exact .inr f20 | exact .inl rfl | omega | (simp; omega)) nb20
                    replace hF := G.fz
                    replace U := U.st x21 f20
                    refine l_nil ?_
                    refine hK19 _ _ ?_
                    refine fg6 7 8 24 25 26 11 (gS rfl (gS rfl (gS rfl (gS rfl (gS rfl (gS rfl (gS rfl g0))))))) (gS rfl (gS rfl (gS rfl (gS rfl (gS rfl (gS rfl g0)))))) (gS rfl (gS rfl (gS rfl (gS rfl (gS rfl g0))))) (gS rfl (gS rfl (gS rfl (gS rfl g0)))) (gS rfl (gS rfl (gS rfl g0))) g0 (fun g => ?_)
                    refine c_seq (fun K22 hK22 => ?_)
                    exact (by
                      refine c_region ?_
                      refine l_step (y_moveV (et (gS rfl (gS rfl (gS rfl (gS rfl (gS rfl g0))))) rfl)) ?_
                      refine l_step (y_loadB agg_41 sz_41 (et (gS rfl g0) rfl) (by rw [List.size_toArray, hrl]) (at1B k20)) ?_
                      have hBb := hBa.go Vq9
                      have nc11 := hBb.x.new
                      have hc11 : col1 b20 = 0 := hBa.x.new _ (by have h9 := fVq9_20; omega)
                      have hbs1 : bs < b20 := by have h9 := fVq9_20; omega
                      refine l_eff (e_callV cal_6 (aC (et (gS rfl g0) rfl) (aC (et g0 rfl) aN)) (e_applyX hBb.x hBb.i (hTx.mono Vq9.le) hrl)) (fun v23 w23 h23 => ?_)
                      obtain ⟨H23, col9, s9, ver, sts, used, made, out, logs, oa, la, oc, lc, rfl, hO1, hL1, hET, hX9, hI9, hst, hlg, hln, hAp⟩ := h23
                      have g23 := hET.go
                      have wz := U.size
                      have hlew23 := g23.le
                      replace nb20 := g23.nb nb20 k20.lt
                      replace hL0 := hL0.trans hlew23
                      replace k20 := k20.ch g23.ch (by first | omega | exact fun h9 => h9 hc11)
                      replace U := U.cc g23.ch (by intro b hb; first | exact .inr (Classical.byContradiction fun h9 => hb (hza b (by omega))) | exact .inl (Classical.byContradiction fun h9 => hb (hza b (by omega))) | exact Classical.byContradiction fun h9 => hb (hza b (by omega)))
                      replace G := G.trans g23 (by intro b hb; first | exact .inr (Classical.byContradiction fun h9 => hb (hza b (by omega))) | exact .inl (Classical.byContradiction fun h9 => hb (hza b (by omega))) | exact Classical.byContradiction fun h9 => hb (hza b (by omega)))
                      replace V13 := V13.trans g23 (by intro b hb; first | exact .inr (Classical.byContradiction fun h9 => hb (hza b (by omega))) | exact .inl (Classical.byContradiction fun h9 => hb (hza b (by omega))) | exact Classical.byContradiction fun h9 => hb (hza b (by omega)))
                      replace hF := g23.fz
                      have hY9 := hBb.y.go g23 (fun h9 => h9 hBb.c)
                      have hz9 : ∀ b, b < w.heap.size → col9 b = 0 := fun b hb => (hET.col b (Nat.lt_of_lt_of_le hb wz)).trans (hza b hb)
                      have Vr9 : Go No w23 H23 w23 H23 := Go.refl hF
                      refine l_eff (e_alloc zr_44) (fun v24 w24 h24 => ?_)
                      obtain ⟨b24, rfl, n24⟩ := h24
                      have d20_24 : b20 < b24 := Nat.lt_of_lt_of_le k20.lt n24.fresh
                      have f24 : w.heap.size ≤ b24 := Nat.le_trans U.size n24.fresh
                      have nb24 := hF.nb n24.fresh
                      have fV13_24 := Nat.le_trans V13.ch.size n24.fresh
                      have fVr9_24 := Nat.le_trans Vr9.ch.size n24.fresh
                      replace G := G.tr (Go.ofUp hF n24.up)
                      replace V13 := V13.tr (Go.ofUp hF n24.up)
                      replace Vr9 := Vr9.tr (Go.ofUp hF n24.up)
                      replace hF := hF.up n24.up
                      replace k20 := k20.up n24.up
                      replace U := U.tr n24.up
                      have k24 := n24.blk
                      obtain ⟨zs24, hz24, k24⟩ : ∃ cs : Array Value, cs.size = 25 ∧ Blk w24 b24 cs := ⟨_, rfl, k24⟩
                      exact (by
                        refine l_effN (e_store sz_44 (et g0 rfl) (cellsV (et (gS rfl g0) rfl) rfl) rcC_len (by exact rcC_one rfl rfl) k24 (by (rw [hz24]; exact Nat.le_refl _))) (fun v25 w25 h25 => ?_)
                        obtain ⟨rfl, x25⟩ := h25
                        replace k20 := k20.ch x25.ch (by omega)
                        replace k24 := x25.blk.full (by rw [rcC_len, hz24])
                        replace G := G.wr x25 (by first | exact .inr f24 | exact .inl rfl | omega | (simp; omega)) nb24
                        replace V13 := V13.wr x25 (by first | exact .inr f24 | exact .inl rfl | omega | (simp; omega)) nb24
                        replace Vr9 := Vr9.wr x25 (by first | exact .inr f24 | exact .inl rfl | omega | (simp; omega)) nb24
                        replace hF := G.fz
                        replace U := U.st x25 f24
                        refine l_nil ?_
                        refine hK22 _ _ ?_
                        refine fg7 7 8 24 25 26 11 12 (gS rfl (gS rfl (gS rfl (gS rfl (gS rfl (gS rfl (gS rfl (gS rfl (gS rfl g0))))))))) (gS rfl (gS rfl (gS rfl (gS rfl (gS rfl (gS rfl (gS rfl (gS rfl g0)))))))) (gS rfl (gS rfl (gS rfl (gS rfl (gS rfl (gS rfl (gS rfl g0))))))) (gS rfl (gS rfl (gS rfl (gS rfl (gS rfl (gS rfl g0)))))) (gS rfl (gS rfl (gS rfl (gS rfl (gS rfl g0))))) (gS rfl (gS rfl (gS rfl (gS rfl g0)))) g0 (fun g => ?_)
                        refine c_seq (fun K26 hK26 => ?_)
                        exact (by
                          refine c_draw (Ch (fun k => k = bs)) 10 [(0, true), (1, true), (2, true), (4, true), (6, true), (3, false), (5, false), (7, false), (8, false), (9, true)] (by kernel_rfl) (fun w27 hu => ⟨Ch.refl _ _, ?_⟩)
                          replace G := G.tr (Go.ofUp hF hu)
                          replace V13 := V13.tr (Go.ofUp hF hu)
                          replace Vr9 := Vr9.tr (Go.ofUp hF hu)
                          replace hF := hF.up hu
                          replace k20 := k20.up hu
                          replace k24 := k24.up hu
                          replace U := U.tr hu
                          have SU : (Ch (fun k => k = bs)) w27 w27 := Ch.refl _ _
                          refine p_step (by exact rfl) (y_loadB agg_44 sz_44 (et g0 rfl) (by rw [List.size_toArray, rcC_len]) (atCB k24 (by omega))) ?_
                          refine p_step (by exact rfl) (y_moveV (et (gS rfl (gS rfl (gS rfl (gS rfl (gS rfl (gS rfl g0)))))) rfl)) ?_
                          refine p_step (by exact rfl) (y_loadB agg_41 sz_41 (et (gS rfl (gS rfl (gS rfl g0))) rfl) (by rw [List.size_toArray, hrl]) (atCB k20 (by omega))) ?_
                          refine p_step (by exact rfl) (y_moveV (et (gS rfl (gS rfl (gS rfl (gS rfl (gS rfl (gS rfl (gS rfl (gS rfl (gS rfl g0))))))))) rfl)) ?_
                          refine p_step (by exact rfl) (y_moveV (et (gS rfl (gS rfl (gS rfl (gS rfl (gS rfl (gS rfl (gS rfl (gS rfl (gS rfl g0))))))))) rfl)) ?_
                          have hXc := hX9.go Vr9 (fun _ h => h.elim)
                          have hYc := hY9.go Vr9 (fun h => h)
                          have hb9 := hBb.x.ibd hBb.i
                          have hcs9 : col9 bs = 0 := (hET.col bs hBb.y.blt).trans hBb.c
                          refine p_eff (by exact rfl) (e_callV cal_8 (aC (et (gS rfl (gS rfl (gS rfl g0))) rfl) (aC (et (gS rfl (gS rfl g0)) rfl) aN)) (y_applyX hYc hBb.i hb9 ((hTx.mono Vq9.le).mono (g23.le.trans Vr9.le)) hrl hAp)) (fun v28 w28 h28 => ?_)
                          obtain ⟨H28, ob, lb, od, ld, rfl, hO2, hL2, hQ⟩ := h28
                          have g28 := hQ.go
                          have hlew28 := g28.le
                          replace nb20 := g28.nb nb20 k20.lt
                          replace nb24 := g28.nb nb24 k24.lt
                          replace hO1 := hO1.mono hlew28
                          replace hL1 := hL1.mono hlew28
                          replace hL0 := hL0.trans hlew28
                          replace k20 := k20.ch g28.ch (by omega)
                          replace k24 := k24.ch g28.ch (by omega)
                          replace U := U.cc g28.ch (by intro b hb; first | exact .inr (by omega) | exact .inl (by omega) | omega)
                          replace G := G.trans g28 (by intro b hb; first | exact .inr (by omega) | exact .inl (by omega) | omega)
                          replace V13 := V13.trans g28 (by intro b hb; first | exact .inr (by omega) | exact .inl (by omega) | omega)
                          replace hF := g28.fz
                          have hBd : Bth w28 H28 col9 bc bs s9 := ⟨hXc.go g28 (fun b hb => by rw [hb]; exact hcs9), hQ.yi, hI9, hcs9⟩
                          replace SU := SU.cc g28.ch (by intro b hb; first | exact .inl hb | exact hb.elim | omega)
                          refine ⟨.inr SU, ?_⟩
                          have Vs9 : Go No w28 H28 w28 H28 := Go.refl hF
                          exact (by
                            refine p_eff (by exact rfl) (e_callV cal_9 (aC (et (gS rfl (gS rfl g0)) rfl) aN) (e_export hBd.x hBd.i)) (fun v29 w29 h29 => ?_)
                            obtain ⟨H5, hF5, hle5, hLw5, u29⟩ := h29
                            replace G := G.tr (Go.ofUp hF u29)
                            replace V13 := V13.tr (Go.ofUp hF u29)
                            replace Vs9 := Vs9.tr (Go.ofUp hF u29)
                            replace hF := hF.up u29
                            replace k20 := k20.up u29
                            replace k24 := k24.up u29
                            replace U := U.tr u29
                            obtain ⟨wa5, wc5, rfl, _⟩ := hLw5.val
                            refine ⟨.inr (SU.tr u29), ?_⟩
                            replace SU := SU.tr u29
                            obtain ⟨csy, kSy, hSCy, _⟩ := hBd.y.ex
                            obtain ⟨aa9, ac9, hc0, hAc⟩ := hSCy.acc
                            have hbd := hBd.x.ibd hBd.i
                            refine p_eff (by exact rfl) (e_callV cal_10 (aC (et (gS rfl (gS rfl g0)) rfl) aN) (yp_export hF5 (kSy.up u29) hc0 (hAc.mono hle5) (by have := hbd.lb.accts; omega) (fun A hA => by have := hbd.lb.slots A hA; omega))) (fun v30 w30 h30 => ?_)
                            obtain ⟨H6, g6, hLw6⟩ := h30
                            replace G := G.tr (Go.ofUp hF g6.up)
                            replace V13 := V13.tr (Go.ofUp hF g6.up)
                            replace Vs9 := Vs9.tr (Go.ofUp hF g6.up)
                            replace hF := hF.up g6.up
                            replace k20 := k20.up g6.up
                            replace k24 := k24.up g6.up
                            replace U := U.tr g6.up
                            obtain ⟨wa6, wc6, rfl, _⟩ := hLw6.val
                            refine ⟨.inr (SU.tr g6.up), ?_⟩
                            replace SU := SU.tr g6.up
                            refine p_eff (by exact rfl) (e_callV cal_7 (aC (et (gS rfl (gS rfl (gS rfl (gS rfl (gS rfl (gS rfl (gS rfl g0))))))) rfl) (aC (et (gS rfl (gS rfl g0)) rfl) (aC (et (gS rfl g0) rfl) (aC (et g0 rfl) aN)))) (law_towerHolds g6.fz (hO1.mono (hle5.trans g6.le)) (hO2.mono (hle5.trans g6.le)) (hL1.mono (hle5.trans g6.le)) (hL2.mono (hle5.trans g6.le)) hln hlg (hLw5.mono g6.le) hLw6 (by have h8 := exp_ll s9.now.accts; have h9 := hbd.lb.accts; omega) (fun A hA => by have h9 := hbd.lb.slots A (exp_sub hA); omega) hst)) (fun v31 w31 h31 => ?_)
                            obtain ⟨rfl, u31⟩ := h31
                            replace G := G.tr (Go.ofUp hF u31)
                            replace V13 := V13.tr (Go.ofUp hF u31)
                            replace Vs9 := Vs9.tr (Go.ofUp hF u31)
                            replace hF := hF.up u31
                            replace k20 := k20.up u31
                            replace k24 := k24.up u31
                            replace U := U.tr u31
                            refine ⟨.inr (SU.tr u31), ?_⟩
                            replace SU := SU.tr u31
                            exact (by
                              refine p_step (by exact rfl) (y_not (et g0 rfl)) ?_
                              refine p_nil ?_
                              refine hK26 _ _ ?_
                              refine fg6 7 8 24 25 26 42 (gS rfl (gS rfl (gS rfl (gS rfl (gS rfl (gS rfl (gS rfl (gS rfl (gS rfl (gS rfl (gS rfl (gS rfl (gS rfl (gS rfl (gS rfl (gS rfl g0)))))))))))))))) (gS rfl (gS rfl (gS rfl (gS rfl (gS rfl (gS rfl (gS rfl (gS rfl (gS rfl (gS rfl (gS rfl (gS rfl (gS rfl (gS rfl (gS rfl g0))))))))))))))) (gS rfl (gS rfl (gS rfl (gS rfl (gS rfl (gS rfl (gS rfl (gS rfl (gS rfl (gS rfl (gS rfl (gS rfl (gS rfl (gS rfl g0)))))))))))))) (gS rfl (gS rfl (gS rfl (gS rfl (gS rfl (gS rfl (gS rfl (gS rfl (gS rfl (gS rfl (gS rfl (gS rfl (gS rfl g0))))))))))))) (gS rfl (gS rfl (gS rfl (gS rfl (gS rfl (gS rfl (gS rfl (gS rfl (gS rfl (gS rfl (gS rfl (gS rfl g0)))))))))))) g0 (fun g => ?_)
                              refine c_false (et g0 rfl) (by rfl) ?_
                              refine c_skip ?_
                              refine hQ18 _ _ _ (in_normal ?_)
                              refine hK17 _ _ ?_
                              refine fg5 7 8 24 25 26 (gS rfl (gS rfl (gS rfl (gS rfl (gS rfl g0))))) (gS rfl (gS rfl (gS rfl (gS rfl g0)))) (gS rfl (gS rfl (gS rfl g0))) (gS rfl (gS rfl g0)) (gS rfl g0) (fun g => ?_)
                              exact (by
                                refine c_region ?_
                                refine l_step (y_add (et g0 rfl) rfl (addIN (y := 1) ?_)) ?_
                                omega
                                refine l_step (y_moveV (et g0 rfl)) ?_
                                refine l_nil ?_
                                refine fK5 7 8 24 25 26 (gS rfl (gS rfl (gS rfl (gS rfl (gS rfl (gS rfl g0)))))) (gS rfl (gS rfl (gS rfl (gS rfl (gS rfl g0))))) (gS rfl (gS rfl (gS rfl (gS rfl g0)))) (gS rfl (gS rfl (gS rfl g0))) g0 (fun g => ?_)
                                exact hK13 (mt - ((i + 1))) _ _ (by omega) ⟨g, _, _, _, (i + 1), rfl, rfl, by omega, ⟨hBd.go Vs9, hz9⟩, V13⟩)))))))
                · skip
                  
                  refine c_exit ?_
                  refine hQ12 _ _ _ (in_exit ?_)
                  refine hK9 _ _ ?_
                  refine fg0 (fun g => ?_)
                  refine c_seq (fun K33 hK33 => ?_)
                  exact (by
                    refine c_region ?_
                    refine l_step y_assignC ?_
                    refine l_nil ?_
                    refine hK33 _ _ ?_
                    refine c_ret ?_
                    repeat with_reducible refine then_ret ?_
                    refine ret1 rfl (res_tmp (et g0 rfl)) ?_
                    exact ⟨rfl, G.up⟩))))))
end Go.Proofs.YgvaawGreat
