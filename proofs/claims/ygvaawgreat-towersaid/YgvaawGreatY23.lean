import Derived.Test.YgvaawGreatK0
set_option maxRecDepth 100000
set_option maxHeartbeats 4000000
set_option linter.unusedSimpArgs false
set_option linter.unusedVariables false
namespace Go.Proofs.YgvaawGreat
open Go
theorem Blk.eput {w : World} {H : Store} {b k o : Nat} {cs : Array Value} {v : Value} {e : YEnv} (h : Blk w b (spl cs k [v])) (g : EC H cs o e) (hk : k < o) : EC H (spl cs k [v]) o e := g.set hk
theorem Blk.eset {w : World} {H : Store} {b k o : Nat} {cs : Array Value} {v : Value} {e : YEnv} (h : Blk w b (cs.setIfInBounds k v)) (g : EC H cs o e) (hk : k < o) : EC H (cs.setIfInBounds k v) o e := g.set hk
theorem len_insA (a : Nat) : ∀ l : List Nat, (insA a l).length = l.length + 1
  | [] => rfl
  | x :: l => by
    rw [insA]
    split
    · rfl
    · rw [List.length_cons, len_insA a l, List.length_cons]
theorem len_withA (l : List Nat) (a : Nat) : (withA l a).length ≤ l.length + 1 := by
  unfold withA
  split
  · omega
  · exact Nat.le_of_eq (len_insA a l)
theorem len_withM (l : List (Nat × Nat)) (a k : Nat) : (withM l a k).length ≤ l.length + 1 := by
  unfold withM
  split
  · omega
  · unfold insM
    exact Nat.le_trans (putP_len _ _) (by simp)
theorem len_putT (l : List (Nat × Nat × Nat)) (a k v : Nat) : (putT l a k v).length ≤ l.length + 1 := by
  unfold putT
  refine Nat.le_trans (putP_len _ _) ?_
  split <;> simp
/-- room for one step -/
structure SRm (s : YSt) : Prop where
  accts : s.now.accts.length < 1048000
  warmA : s.now.warmA.length < 1048000
  warmS : s.now.warmS.length < 1048000
  refund : s.now.refund < 18446744073709000000
  logs : s.now.logs.length < 1048000
  temps : s.now.temps.length < 1048000
  slots : ∀ a, (acctAt s.now.accts a).slots.length < 2147483000
theorem kec_lt (l : List Nat) : kecN l < W256 := by
  have := ofBE_lt (kecL l) (kec_dig l)
  rw [kec_len] at this
  exact W_bd this
def avN (A : YAcct) (o : Nat) : Nat := if o = 49 then A.bal else if o = 59 then A.code.length else if emptyB A = true then 0 else kecN A.code
theorem acct_form' {H : Store} {c : List Value} {A : YAcct} (h : P_acct H c A) : ∃ vn vb vc vs, c = bL (be 20 A.addr) ++ [vn, vb, vc, vs] ∧ NV H vn A.nonce ∧ NV H vb A.bal ∧ BV H vc A.code ∧ A.nonce < 18446744073709551616 ∧ A.bal < W256 ∧ A.code.length < 4294967296 := by
  obtain ⟨vn, vb, vc, vs, h1, h2, h3, h4, h5, h6, h7, h8, h9⟩ := h
  exact ⟨vn, vb, vc, vs, h1, h3, h4, h5, h7, h8, h9⟩
theorem acct_c21 {c : List Value} {a : Nat} {vn vb vc vs : Value} (h : c = bL (be 20 a) ++ [vn, vb, vc, vs]) : c.toArray[21]? = some vb := by rw [h]; exact (app20 (i := 1) rfl).trans rfl
theorem acct_c22 {c : List Value} {a : Nat} {vn vb vc vs : Value} (h : c = bL (be 20 a) ++ [vn, vb, vc, vs]) : c.toArray[22]? = some vc := by rw [h]; exact (app20 (i := 2) rfl).trans rfl
theorem yp_accountValue (hKec : KSum) {w : World} {H : Store} (hF : Fz w H) {ca : List Value} {A : YAcct} (hA : P_acct H ca A) (q : Nat) (hq : q < 256) :
    Ret 231 [.agg ca.toArray, .int .u8 q] w (fun v w' => ∃ H', Go No w H w' H' ∧ NV H' v (avN A q) ∧ avN A q < 256 ^ 32) := by
  refine enter (n := 25) Hvaa.func231 rfl rfl (Nat.le_of_ble_eq_true rfl) ?_
  have U := Up.refl w
  have G : Go (No) w H w H := Go.refl hF
  have hL0 : Le H H := Le.refl H
  refine c_seq (fun K1 hK1 => ?_)
  exact (by
    refine c_region ?_
    refine l_eff (e_boxV (et g0 rfl)) (fun v2 w2 h2 => ?_)
    obtain ⟨b2, rfl, n2⟩ := h2
    have f2 : w.heap.size ≤ b2 := Nat.le_trans U.size n2.fresh
    have nb2 := hF.nb n2.fresh
    replace G := G.tr (Go.ofUp hF n2.up)
    replace hF := hF.up n2.up
    replace U := U.tr n2.up
    have k2 := n2.blk
    replace k2 : Blk w2 b2 ca.toArray := k2
    obtain ⟨vn, vb, vc, vs, hca, hnn, hbb, hcd, hb1, hb2, hb3⟩ := acct_form' hA
    refine l_step y_assignC ?_
    refine l_nil ?_
    refine hK1 _ _ ?_
    refine fg2 1 2 (gS rfl (gS rfl (gS rfl g0))) (gS rfl g0) (fun g => ?_)
    refine c_seq (fun K3 hK3 => ?_)
    refine c_seq (fun K4 hK4 => ?_)
    exact (by
      refine c_region ?_
      refine l_step (y_moveV (et (gS rfl g0) rfl)) ?_
      refine l_nil ?_
      refine hK4 _ _ ?_
      refine fg2 2 6 (gS rfl g0) g0 (fun g => ?_)
      refine c_block (fun Q5 hQ5 => ?_)
      refine c_seq (fun K6 hK6 => ?_)
      exact (by
        refine c_region ?_
        refine l_step (y_eql (et g0 rfl) rfl) ?_
        refine l_step (y_assignV (et g0 rfl)) ?_
        refine l_nil ?_
        refine hK6 _ _ ?_
        refine fg3 2 6 7 (gS rfl (gS rfl (gS rfl g0))) (gS rfl (gS rfl g0)) g0 (fun g => ?_)
        refine c_condV (i := 7) g0 rfl (fun cB1 => ?_) (fun cB1 => ?_)
        · skip
          simp only [Bool.and_eq_true, Bool.or_eq_true, Bool.and_eq_false_imp, Bool.or_eq_false_iff, decide_eq_true_eq, decide_eq_false_iff_not] at cB1
          refine c_seq (fun K8 hK8 => ?_)
          exact (by
            refine c_region ?_
            refine l_step (y_fld fld_107_2 (et (gS rfl (gS rfl (gS rfl g0))) rfl)) ?_
            refine l_step (y_load1 one_95 (et g0 rfl) (at1 (k2.cell (acct_c21 hca)))) ?_
            refine l_eff (e_callV cal_123 (aC (et g0 rfl) aN) (nat_normN hF (hbb.mono hL0) (bd_sm (bd_W hb2) (by decide)))) (fun v9 w9 h9 => ?_)
            obtain ⟨H9, g9, n9⟩ := h9
            have hlew9 := g9.le
            replace nb2 := g9.nb nb2 k2.lt
            replace hL0 := hL0.trans hlew9
            replace k2 := k2.up g9.up
            replace U := U.tr g9.up
            replace G := G.tr g9
            replace hF := g9.fz
            have q9 := (bd_W hb2)
            refine l_step (y_assignV (et g0 rfl)) ?_
            refine l_nil ?_
            refine hK8 _ _ ?_
            refine fg1 4 g0 (fun g => ?_)
            refine c_ret ?_
            refine hQ5 _ _ _ (in_ret ?_)
            repeat with_reducible refine then_ret ?_
            refine ret1 rfl (res_tmp (et g0 rfl)) ?_
            exact ⟨_, G, nvb (n := 32) n9 q9 (by decide) (by rw [avN, if_pos (by omega)])⟩)
        · skip
          simp only [Bool.and_eq_true, Bool.or_eq_true, Bool.and_eq_false_imp, Bool.or_eq_false_iff, decide_eq_true_eq, decide_eq_false_iff_not] at cB1
          refine c_seq (fun K10 hK10 => ?_)
          exact (by
            refine c_region ?_
            refine l_step (y_eql (et (gS rfl (gS rfl g0)) rfl) rfl) ?_
            refine l_step (y_assignV (et g0 rfl)) ?_
            refine l_nil ?_
            refine hK10 _ _ ?_
            refine fg2 2 12 (gS rfl (gS rfl (gS rfl (gS rfl (gS rfl g0))))) g0 (fun g => ?_)
            refine c_condV (i := 12) g0 rfl (fun cB2 => ?_) (fun cB2 => ?_)
            · skip
              simp only [Bool.and_eq_true, Bool.or_eq_true, Bool.and_eq_false_imp, Bool.or_eq_false_iff, decide_eq_true_eq, decide_eq_false_iff_not] at cB2
              refine c_seq (fun K12 hK12 => ?_)
              exact (by
                refine c_region ?_
                refine l_step (y_fld fld_107_3 (et (gS rfl (gS rfl g0)) rfl)) ?_
                refine l_step (y_load1 one_38 (et g0 rfl) (at1 (k2.cell (acct_c22 hca)))) ?_
                obtain ⟨xa, xc, rfl, hxl, hxc⟩ := (hcd.wv hF).val
                refine l_step (y_len Hvaa.underlying38 (et g0 rfl)) ?_
                refine l_step (y_conv Hvaa.underlying3 Hvaa.underlying26 (et g0 rfl) (wrapU_id uk64 ?_)) ?_
                omega
                refine l_eff (e_callV cal_32 (aC (et g0 rfl) aN) (yp_num hF (show A.code.length < 18446744073709551616 by omega))) (fun v13 w13 h13 => ?_)
                obtain ⟨H13, g13, n13⟩ := h13
                have hlew13 := g13.le
                replace nb2 := g13.nb nb2 k2.lt
                replace hL0 := hL0.trans hlew13
                replace k2 := k2.up g13.up
                replace U := U.tr g13.up
                replace G := G.tr g13
                replace hF := g13.fz
                have q13 := bd_64 (show A.code.length < 18446744073709551616 by omega)
                refine l_step (y_assignV (et g0 rfl)) ?_
                refine l_nil ?_
                refine hK12 _ _ ?_
                refine fg1 4 g0 (fun g => ?_)
                refine c_ret ?_
                refine hQ5 _ _ _ (in_ret ?_)
                repeat with_reducible refine then_ret ?_
                refine ret1 rfl (res_tmp (et g0 rfl)) ?_
                exact ⟨_, G, nvb (n := 8) n13 q13 (by decide) (by rw [avN, if_neg (by omega), if_pos (by omega)])⟩)
            · skip
              simp only [Bool.and_eq_true, Bool.or_eq_true, Bool.and_eq_false_imp, Bool.or_eq_false_iff, decide_eq_true_eq, decide_eq_false_iff_not] at cB2
              refine c_skip ?_
              refine hQ5 _ _ _ (in_normal ?_)
              refine hK3 _ _ ?_
              refine fg1 2 (gS rfl (gS rfl g0)) (fun g => ?_)
              refine c_seq (fun K14 hK14 => ?_)
              refine c_seq (fun K15 hK15 => ?_)
              exact (by
                refine c_region ?_
                refine l_eff (e_callV cal_23 (aC (et g0 rfl) aN) (yp_empty _ _ _ _ _ hF k2 hA)) (fun v16 w16 h16 => ?_)
                obtain ⟨rfl, u16⟩ := h16
                replace G := G.tr (Go.ofUp hF u16)
                replace hF := hF.up u16
                replace k2 := k2.up u16
                replace U := U.tr u16
                refine l_nil ?_
                refine hK15 _ _ ?_
                refine c_condV (i := 19) g0 rfl (fun cB3 => ?_) (fun cB3 => ?_)
                · skip
                  
                  refine c_seq (fun K18 hK18 => ?_)
                  exact (by
                    refine c_region ?_
                    refine l_step y_assignC ?_
                    refine l_nil ?_
                    refine hK18 _ _ ?_
                    refine fg1 4 g0 (fun g => ?_)
                    refine c_ret ?_
                    repeat with_reducible refine then_ret ?_
                    refine ret1 rfl (res_tmp (et g0 rfl)) ?_
                    exact ⟨_, G, nvb (n := 0) (NV.nil _) bd_zero (by decide) (by rw [avN, if_neg (by omega), if_neg (by omega), if_pos cB3])⟩)
                · skip
                  
                  refine c_skip ?_
                  refine hK14 _ _ ?_
                  refine fg1 2 (gS rfl (gS rfl g0)) (fun g => ?_)
                  refine c_seq (fun K19 hK19 => ?_)
                  exact (by
                    refine c_region ?_
                    refine l_step (y_fld fld_107_3 (et g0 rfl)) ?_
                    refine l_step (y_load1 one_38 (et g0 rfl) (at1 (k2.cell (acct_c22 hca)))) ?_
                    refine l_eff (e_callV cal_215 (aC (et g0 rfl) aN) (hKec _ _ _ _ hF (hcd.mono hL0) (by omega))) (fun v20 w20 h20 => ?_)
                    obtain ⟨rfl, u20⟩ := h20
                    replace G := G.tr (Go.ofUp hF u20)
                    replace hF := hF.up u20
                    replace k2 := k2.up u20
                    replace U := U.tr u20
                    refine l_eff (e_alloc zr_27) (fun v21 w21 h21 => ?_)
                    obtain ⟨b21, rfl, n21⟩ := h21
                    have d2_21 : b2 < b21 := Nat.lt_of_lt_of_le k2.lt n21.fresh
                    have f21 : w.heap.size ≤ b21 := Nat.le_trans U.size n21.fresh
                    have nb21 := hF.nb n21.fresh
                    replace G := G.tr (Go.ofUp hF n21.up)
                    replace hF := hF.up n21.up
                    replace k2 := k2.up n21.up
                    replace U := U.tr n21.up
                    have k21 := n21.blk
                    refine l_effN (e_store sz_27 (et g0 rfl) (cellsV (et (gS rfl g0) rfl) rfl) (by rw [length_bL, length_be]) (by exact one_bL _) k21 (by exact Nat.le_of_ble_eq_true rfl)) (fun v22 w22 h22 => ?_)
                    obtain ⟨rfl, x22⟩ := h22
                    replace k2 := k2.ch x22.ch (by omega)
                    replace k21 := x22.blk.full (by rw [length_bL, length_be]; rfl)
                    replace G := G.wr x22 (by first | exact .inr f21 | omega | (simp; omega)) nb21
                    replace hF := G.fz
                    replace U := U.st x22 f21
                    refine l_nil ?_
                    refine hK19 _ _ ?_
                    refine fg1 5 g0 (fun g => ?_)
                    refine c_seq (fun K23 hK23 => ?_)
                    exact (by
                      refine c_region ?_
                      refine l_step (y_slA000 Hvaa.underlying27 sz_5 (et g0 rfl) ) ?_
                      refine l_eff (e_callV cal_33 (aC (et g0 rfl) aN) (nat_fromRow hF (k21.row (RowIn.self _)) k21.lt (bd_W (kec_lt _)) (by decide))) (fun v24 w24 h24 => ?_)
                      obtain ⟨H24, g24, n24⟩ := h24
                      have hlew24 := g24.le
                      replace nb2 := g24.nb nb2 k2.lt
                      replace nb21 := g24.nb nb21 k21.lt
                      replace hL0 := hL0.trans hlew24
                      replace k2 := k2.up g24.up
                      replace k21 := k21.up g24.up
                      replace U := U.tr g24.up
                      replace G := G.tr g24
                      replace hF := g24.fz
                      refine l_step (y_assignV (et g0 rfl)) ?_
                      refine l_nil ?_
                      refine hK23 _ _ ?_
                      refine fg1 4 g0 (fun g => ?_)
                      refine c_ret ?_
                      repeat with_reducible refine then_ret ?_
                      refine ret1 rfl (res_tmp (et g0 rfl)) ?_
                      exact ⟨_, G, nvb (n := 32) n24 (bd_W (kec_lt _)) (by decide) (by rw [avN, if_neg (by omega), if_neg (by omega), if_neg (by rw [cB3]; decide)])⟩)))))))
theorem yp_baseFee {w : World} {H : Store} (hF : Fz w H) (bs : Nat) (cs : Array Value) (s : YSt) (vf : Value) (kS : Blk w bs cs) (hs : SC H cs s vf) :
    Ret 70 [.pointer (some ⟨bs, 0, none⟩)] w (fun v w' => ∃ H', Go No w H w' H' ∧ NV H' v (s.env.baseFee) ∧ s.env.baseFee < 256 ^ 32) := by
  obtain ⟨aa, ac, wa, wc, sa, sc, vr, la, lc, ta, tc, ma, mc, ga, gc, oa, oc, ra, rc, vlim, vtx, vleft, vpr, vtot, rS, rOr, rMd, hAc, hWA, hWS, hRf, hTm, hMd, hGn, hSr, hRt, hLm, hTx, hLf, hPr, hTt⟩ := hs.ex
  have so := hs.ok
  have so1 := so.accts
  have so2 := so.warmA
  have so3 := so.warmS
  have so4 := so.temps
  have so5 := so.start
  have so6 := so.logs
  have so7 := so.made
  have so8 := so.gone
  have so9 := so.ret
  have eC := hs.env
  obtain ⟨eha, ehc, rE1, rE2, rE3, rE4, rE5, rE6, hHs⟩ := hs.env.ex
  have eo := hs.env.ok
  have eo1 := eo.hashes
  have lS := kS.lt
  refine enter (n := 9) Hvaa.func70 rfl rfl (Nat.le_of_ble_eq_true rfl) ?_
  have U := Up.refl w
  have G : Go (No) w H w H := Go.refl hF
  have hL0 : Le H H := Le.refl H
  refine c_seq (fun K1 hK1 => ?_)
  exact (by
    refine c_region ?_
    refine l_step y_assignC ?_
    refine l_nil ?_
    refine hK1 _ _ ?_
    refine fg1 0 (gS rfl g0) (fun g => ?_)
    refine c_seq (fun K2 hK2 => ?_)
    exact (by
      refine c_region ?_
      refine l_step (y_moveV (et g0 rfl)) ?_
      refine l_step (y_nil (et g0 rfl)) ?_
      refine l_step (y_fld fld_102_14 (et g0 rfl)) ?_
      refine l_step (y_fld fld_31_6 (et g0 rfl)) ?_
      refine l_step (y_slA000 Hvaa.underlying28 sz_5 (et g0 rfl) ) ?_
      refine l_eff (e_callV cal_33 (aC (et g0 rfl) aN) (nat_fromRow hF (kS.row rE5) kS.lt (bd_W eo.baseFee) (by decide))) (fun v3 w3 h3 => ?_)
      obtain ⟨H3, g3, n3⟩ := h3
      have hlew3 := g3.le
      replace hL0 := hL0.trans hlew3
      replace kS := kS.up g3.up
      replace U := U.tr g3.up
      replace G := G.tr g3
      replace hF := g3.fz
      refine l_step (y_assignV (et g0 rfl)) ?_
      refine l_nil ?_
      refine hK2 _ _ ?_
      refine fg1 2 g0 (fun g => ?_)
      refine c_ret ?_
      repeat with_reducible refine then_ret ?_
      refine ret1 rfl (res_tmp (et g0 rfl)) ?_
      exact ⟨_, G, nvb (n := 32) n3 (bd_W eo.baseFee) (by decide) (by rfl)⟩))
theorem Row.blt {w : World} {b o : Nat} {v : Value} {l : List Value} (h : Row w b o l) (hv : l[0]? = some v) : b < w.heap.size := by
  have := h 0 v hv
  unfold World.cell? at this
  cases hb : w.heap[b]? with
  | none => simp [hb] at this
  | some x => exact (Array.getElem?_eq_some_iff.1 hb).1
theorem be_head (n x : Nat) : ∃ v, (bL (be (n + 1) x))[0]? = some v := ⟨_, List.getElem?_eq_getElem (by rw [length_bL, length_be]; omega)⟩
def bvN (s : YSt) (o a : Nat) : Nat :=
  if o = 64 then (if a + 1 ≤ s.env.number then (if s.env.number - (a + 1) < s.env.hashes.length then s.env.hashes[s.env.number - (a + 1)]?.getD 0 else 0) else 0)
  else if o = 65 then s.env.coinbase
  else if o = 66 then s.env.time
  else if o = 67 then s.env.number
  else if o = 68 then s.env.randao
  else if o = 69 then s.env.gasLimit
  else if o = 72 then s.env.baseFee
  else s.env.chainID
theorem yp_blockValue {w : World} {H : Store} (hF : Fz w H) (bs : Nat) (cs : Array Value) (s : YSt) (vf : Value) (kS : Blk w bs cs) (hs : SC H cs s vf) (q : Nat) (hq : q < 256) {va : Value} {a : Nat} (hA : NV H va a) (sA : a < 256 ^ 32) :
    Ret 230 [.pointer (some ⟨bs, 0, none⟩), .int .u8 q, va] w (fun v w' => ∃ H', Go No w H w' H' ∧ NV H' v (bvN s q a) ∧ bvN s q a < 256 ^ 32) := by
  obtain ⟨aa, ac, wa, wc, sa, sc, vr, la, lc, ta, tc, ma, mc, ga, gc, oa, oc, ra, rc, vlim, vtx, vleft, vpr, vtot, rS, rOr, rMd, hAc, hWA, hWS, hRf, hTm, hMd, hGn, hSr, hRt, hLm, hTx, hLf, hPr, hTt⟩ := hs.ex
  have so := hs.ok
  have so1 := so.accts
  have so2 := so.warmA
  have so3 := so.warmS
  have so4 := so.temps
  have so5 := so.start
  have so6 := so.logs
  have so7 := so.made
  have so8 := so.gone
  have so9 := so.ret
  have eC := hs.env
  obtain ⟨eha, ehc, rE1, rE2, rE3, rE4, rE5, rE6, hHs⟩ := hs.env.ex
  have eo := hs.env.ok
  have eo1 := eo.hashes
  have lS := kS.lt
  refine enter (n := 95) Hvaa.func230 rfl rfl (Nat.le_of_ble_eq_true rfl) ?_
  have U := Up.refl w
  have G : Go (No) w H w H := Go.refl hF
  have hL0 : Le H H := Le.refl H
  refine c_seq (fun K1 hK1 => ?_)
  exact (by
    refine c_region ?_
    refine l_step y_assignC ?_
    refine l_nil ?_
    refine hK1 _ _ ?_
    refine fg3 2 1 0 (gS rfl (gS rfl (gS rfl g0))) (gS rfl (gS rfl g0)) (gS rfl g0) (fun g => ?_)
    refine c_seq (fun K2 hK2 => ?_)
    exact (by
      refine c_region ?_
      refine l_step (y_moveV (et g0 rfl)) ?_
      refine l_step (y_nil (et g0 rfl)) ?_
      refine l_step (y_fld fld_102_14 (et g0 rfl)) ?_
      refine l_step (y_assignV (et g0 rfl)) ?_
      refine l_nil ?_
      refine hK2 _ _ ?_
      refine fg4 2 1 0 7 (gS rfl (gS rfl (gS rfl (gS rfl (gS rfl (gS rfl g0)))))) (gS rfl (gS rfl (gS rfl (gS rfl (gS rfl g0))))) (gS rfl (gS rfl (gS rfl (gS rfl g0)))) g0 (fun g => ?_)
      refine c_seq (fun K3 hK3 => ?_)
      refine c_seq (fun K4 hK4 => ?_)
      exact (by
        refine c_region ?_
        refine l_step (y_moveV (et (gS rfl (gS rfl g0)) rfl)) ?_
        refine l_nil ?_
        refine hK4 _ _ ?_
        refine fg4 2 0 7 15 (gS rfl (gS rfl (gS rfl (gS rfl g0)))) (gS rfl (gS rfl g0)) (gS rfl g0) g0 (fun g => ?_)
        refine c_block (fun Q5 hQ5 => ?_)
        refine c_seq (fun K6 hK6 => ?_)
        exact (by
          refine c_region ?_
          refine l_step (y_eql (et g0 rfl) rfl) ?_
          refine l_step (y_assignV (et g0 rfl)) ?_
          refine l_nil ?_
          refine hK6 _ _ ?_
          refine fg5 2 0 7 15 16 (gS rfl (gS rfl (gS rfl (gS rfl (gS rfl g0))))) (gS rfl (gS rfl (gS rfl (gS rfl g0)))) (gS rfl (gS rfl (gS rfl g0))) (gS rfl (gS rfl g0)) g0 (fun g => ?_)
          refine c_condV (i := 16) g0 rfl (fun cB1 => ?_) (fun cB1 => ?_)
          · skip
            simp only [Bool.and_eq_true, Bool.or_eq_true, Bool.and_eq_false_imp, Bool.or_eq_false_iff, decide_eq_true_eq, decide_eq_false_iff_not] at cB1
            refine c_seq (fun K8 hK8 => ?_)
            exact (by
              refine c_region ?_
              refine l_step (y_moveV (et (gS rfl (gS rfl (gS rfl g0))) rfl)) ?_
              refine l_step (y_nil (et g0 rfl)) ?_
              refine l_step (y_fld fld_31_1 (et g0 rfl)) ?_
              refine l_step (y_load1 one_26 (et g0 rfl) (at1 (kS.cell (rE2 0 _ rfl)))) ?_
              refine l_eff (e_callV cal_32 (aC (et g0 rfl) aN) (yp_num hF (eo.number))) (fun v9 w9 h9 => ?_)
              obtain ⟨H9, g9, n9⟩ := h9
              have hlew9 := g9.le
              replace hA := hA.mono hlew9
              replace hL0 := hL0.trans hlew9
              replace kS := kS.up g9.up
              replace U := U.tr g9.up
              replace G := G.tr g9
              replace hF := g9.fz
              have q9 := bd_64 (eo.number)
              refine l_step (y_moveV (et (gS rfl (gS rfl (gS rfl (gS rfl (gS rfl (gS rfl (gS rfl (gS rfl (gS rfl (gS rfl g0)))))))))) rfl)) ?_
              refine l_eff (e_callV cal_32 (aC (v := .int .u64 ((1 : Nat) : Int)) rfl aN) (yp_num (x := 1) hF (by decide))) (fun v10 w10 h10 => ?_)
              obtain ⟨H10, g10, n10⟩ := h10
              have hlew10 := g10.le
              replace hA := hA.mono hlew10
              replace n9 := n9.mono hlew10
              replace hL0 := hL0.trans hlew10
              replace kS := kS.up g10.up
              replace U := U.tr g10.up
              replace G := G.tr g10
              replace hF := g10.fz
              have q10 : 1 < 256 ^ 1 := by decide
              refine l_eff (e_callV cal_34 (aC (et (gS rfl g0) rfl) (aC (et g0 rfl) aN)) (nat_add hF hA n10 (bd_sm sA (by decide)) (bd_sm q10 (by decide)))) (fun v11 w11 h11 => ?_)
              obtain ⟨H11, g11, n11⟩ := h11
              have hlew11 := g11.le
              replace hA := hA.mono hlew11
              replace n9 := n9.mono hlew11
              replace n10 := n10.mono hlew11
              replace hL0 := hL0.trans hlew11
              replace kS := kS.up g11.up
              replace U := U.tr g11.up
              replace G := G.tr g11
              replace hF := g11.fz
              have q11 := bd_add (c := 33) sA q10 (by decide)
              exact (by
                refine l_eff (e_callV cal_125 (aC (et (gS rfl (gS rfl (gS rfl g0))) rfl) (aC (et g0 rfl) aN)) (nat_sub hF n9 n11 (bd_sm q9 (by decide)) (bd_sm q11 (by decide)))) (fun v12 w12 h12 => ?_)
                obtain ⟨z12, H12, rfl, g12, n12⟩ := h12
                have hlew12 := g12.le
                replace hA := hA.mono hlew12
                replace n9 := n9.mono hlew12
                replace n10 := n10.mono hlew12
                replace n11 := n11.mono hlew12
                replace hL0 := hL0.trans hlew12
                replace kS := kS.up g12.up
                replace U := U.tr g12.up
                replace G := G.tr g12
                replace hF := g12.fz
                have q12 := bd_sub' n12 q9
                refine l_step (y_moveV (et g0 rfl)) ?_
                refine l_step (y_ext (et g0 rfl) rfl) ?_
                refine l_step (y_ext (et (gS rfl g0) rfl) rfl) ?_
                refine l_step (y_assignV (et (gS rfl g0) rfl)) ?_
                refine l_step (y_assignV (et (gS rfl g0) rfl)) ?_
                refine l_nil ?_
                refine hK8 _ _ ?_
                refine fg3 7 8 9 (gS rfl (gS rfl (gS rfl (gS rfl (gS rfl (gS rfl (gS rfl (gS rfl (gS rfl (gS rfl (gS rfl (gS rfl (gS rfl (gS rfl (gS rfl (gS rfl (gS rfl g0))))))))))))))))) (gS rfl g0) g0 (fun g => ?_)
                refine c_seq (fun K13 hK13 => ?_)
                refine c_seq (fun K14 hK14 => ?_)
                exact (by
                  refine c_region ?_
                  refine l_step (y_moveV (et g0 rfl)) ?_
                  refine l_step (y_not (et g0 rfl)) ?_
                  refine l_nil ?_
                  refine hK14 _ _ ?_
                  refine fg3 7 8 31 (gS rfl (gS rfl (gS rfl (gS rfl g0)))) (gS rfl (gS rfl (gS rfl g0))) g0 (fun g => ?_)
                  refine c_condV (i := 31) g0 rfl (fun cB2 => ?_) (fun cB2 => ?_)
                  · skip
                    simp only [Bool.not_eq_true', decide_eq_false_iff_not, Bool.not_eq_false', decide_eq_true_eq] at cB2
                    refine c_seq (fun K16 hK16 => ?_)
                    exact (by
                      refine c_region ?_
                      refine l_step y_assignC ?_
                      refine l_nil ?_
                      refine hK16 _ _ ?_
                      refine fg1 6 g0 (fun g => ?_)
                      refine c_ret ?_
                      refine hQ5 _ _ _ (in_ret ?_)
                      repeat with_reducible refine then_ret ?_
                      refine ret1 rfl (res_tmp (et g0 rfl)) ?_
                      exact ⟨_, G, nvb (n := 0) (NV.nil _) bd_zero (by decide) (by rw [bvN, if_pos (by omega), if_neg (by omega)])⟩)
                  · skip
                    simp only [Bool.not_eq_true', decide_eq_false_iff_not, Bool.not_eq_false', decide_eq_true_eq] at cB2
                    refine c_skip ?_
                    refine hK13 _ _ ?_
                    refine fg2 7 8 (gS rfl (gS rfl (gS rfl g0))) (gS rfl (gS rfl g0)) (fun g => ?_)
                    refine c_seq (fun K17 hK17 => ?_)
                    refine c_seq (fun K18 hK18 => ?_)
                    exact (by
                      refine c_region ?_
                      refine l_step (y_moveV (et g0 rfl)) ?_
                      refine l_step (y_moveV (et (gS rfl (gS rfl g0)) rfl)) ?_
                      refine l_step (y_nil (et g0 rfl)) ?_
                      refine l_step (y_fld fld_31_7 (et g0 rfl)) ?_
                      refine l_step (y_load1 one_29 (et g0 rfl) (at1 (kS.cell (rE6 0 _ rfl)))) ?_
                      refine l_step (y_len Hvaa.underlying29 (et g0 rfl)) ?_
                      refine l_eff (e_callV cal_136 (aC (et (gS rfl (gS rfl (gS rfl (gS rfl (gS rfl g0))))) rfl) (aC (et g0 rfl) aN)) (yp_place hF n12 (bd_sm q12 (by decide)) s.env.hashes.length (by omega))) (fun v19 w19 h19 => ?_)
                      obtain ⟨rfl, u19⟩ := h19
                      replace G := G.tr (Go.ofUp hF u19)
                      replace hF := hF.up u19
                      replace kS := kS.up u19
                      replace U := U.tr u19
                      refine l_step (y_moveV (et g0 rfl)) ?_
                      refine l_step (y_ext (et g0 rfl) rfl) ?_
                      refine l_step (y_ext (et (gS rfl g0) rfl) rfl) ?_
                      refine l_step (y_assignV (et (gS rfl g0) rfl)) ?_
                      refine l_step (y_assignV (et (gS rfl g0) rfl)) ?_
                      refine l_nil ?_
                      refine hK18 _ _ ?_
                      refine fg3 7 10 11 (gS rfl (gS rfl (gS rfl (gS rfl (gS rfl (gS rfl (gS rfl (gS rfl (gS rfl (gS rfl (gS rfl (gS rfl (gS rfl g0))))))))))))) (gS rfl g0) g0 (fun g => ?_)
                      refine c_seq (fun K20 hK20 => ?_)
                      exact (by
                        refine c_region ?_
                        refine l_step (y_moveV (et g0 rfl)) ?_
                        refine l_nil ?_
                        refine hK20 _ _ ?_
                        refine fg3 7 10 42 (gS rfl (gS rfl (gS rfl g0))) (gS rfl (gS rfl g0)) g0 (fun g => ?_)
                        refine c_condV (i := 42) g0 rfl (fun cB3 => ?_) (fun cB3 => ?_)
                        · skip
                          
                          have hlt := of_decide_eq_true cB3
                          rw [show placeN (s.env.number - (a + 1)) s.env.hashes.length = s.env.number - (a + 1) by rw [placeN, if_pos hlt]]
                          obtain ⟨hb_, ho_, hr_, rfl, hrow, hlen, hPe, hPl⟩ := (hHs.mono hL0).row hF (i := s.env.number - (a + 1)) hlt
                          rw [hPe] at hrow
                          refine c_seq (fun K22 hK22 => ?_)
                          exact (by
                            refine c_region ?_
                            refine l_step (y_moveV (et (gS rfl (gS rfl (gS rfl g0))) rfl)) ?_
                            refine l_step (y_nil (et g0 rfl)) ?_
                            refine l_step (y_fld fld_31_7 (et g0 rfl)) ?_
                            refine l_step (y_load1 one_29 (et g0 rfl) (at1 (kS.cell (rE6 0 _ rfl)))) ?_
                            refine l_step (y_moveV (et (gS rfl (gS rfl (gS rfl (gS rfl (gS rfl (gS rfl g0)))))) rfl)) ?_
                            refine l_step (y_idxS Hvaa.underlying29 sz_28 (et (gS rfl g0) rfl) (et g0 rfl) ?_ ?_) ?_
                            omega
                            omega
                            refine l_step (y_slA000 Hvaa.underlying28 sz_5 (et g0 rfl) ) ?_
                            refine l_eff (e_callV cal_33 (aC (et g0 rfl) aN) (nat_fromRow hF hrow ((be_head 31 _).elim fun _ hv => hrow.blt hv) (bd_W hPl) (by decide))) (fun v23 w23 h23 => ?_)
                            obtain ⟨H23, g23, n23⟩ := h23
                            have hlew23 := g23.le
                            replace hA := hA.mono hlew23
                            replace n9 := n9.mono hlew23
                            replace n10 := n10.mono hlew23
                            replace n11 := n11.mono hlew23
                            replace n12 := n12.mono hlew23
                            replace hL0 := hL0.trans hlew23
                            replace kS := kS.up g23.up
                            replace U := U.tr g23.up
                            replace G := G.tr g23
                            replace hF := g23.fz
                            refine l_step (y_assignV (et g0 rfl)) ?_
                            refine l_nil ?_
                            refine hK22 _ _ ?_
                            refine fg1 6 g0 (fun g => ?_)
                            refine c_ret ?_
                            refine hQ5 _ _ _ (in_ret ?_)
                            repeat with_reducible refine then_ret ?_
                            refine ret1 rfl (res_tmp (et g0 rfl)) ?_
                            exact ⟨_, G, nvb (n := 32) n23 (bd_W hPl) (by decide) (by rw [bvN, if_pos (by omega), if_pos (by omega), if_pos hlt, List.getElem?_eq_getElem hlt]; rfl)⟩)
                        · skip
                          
                          have hlt := of_decide_eq_false cB3
                          refine c_skip ?_
                          refine hK17 _ _ ?_
                          refine fg0 (fun g => ?_)
                          refine c_seq (fun K24 hK24 => ?_)
                          exact (by
                            refine c_region ?_
                            refine l_step y_assignC ?_
                            refine l_nil ?_
                            refine hK24 _ _ ?_
                            refine c_ret ?_
                            refine hQ5 _ _ _ (in_ret ?_)
                            repeat with_reducible refine then_ret ?_
                            refine ret1 rfl (res_tmp (et g0 rfl)) ?_
                            exact ⟨_, G, nvb (n := 0) (NV.nil _) bd_zero (by decide) (by rw [bvN, if_pos (by omega), if_pos (by omega), if_neg hlt])⟩))))))
          · skip
            simp only [Bool.and_eq_true, Bool.or_eq_true, Bool.and_eq_false_imp, Bool.or_eq_false_iff, decide_eq_true_eq, decide_eq_false_iff_not] at cB1
            refine c_seq (fun K25 hK25 => ?_)
            exact (by
              refine c_region ?_
              refine l_step (y_eql (et (gS rfl (gS rfl g0)) rfl) rfl) ?_
              refine l_step (y_assignV (et g0 rfl)) ?_
              refine l_nil ?_
              refine hK25 _ _ ?_
              refine fg4 0 7 15 51 (gS rfl (gS rfl (gS rfl (gS rfl (gS rfl (gS rfl g0)))))) (gS rfl (gS rfl (gS rfl (gS rfl (gS rfl g0))))) (gS rfl (gS rfl (gS rfl (gS rfl g0)))) g0 (fun g => ?_)
              refine c_condV (i := 51) g0 rfl (fun cB4 => ?_) (fun cB4 => ?_)
              · skip
                simp only [Bool.and_eq_true, Bool.or_eq_true, Bool.and_eq_false_imp, Bool.or_eq_false_iff, decide_eq_true_eq, decide_eq_false_iff_not] at cB4
                refine c_seq (fun K27 hK27 => ?_)
                exact (by
                  refine c_region ?_
                  refine l_step (y_moveV (et (gS rfl (gS rfl (gS rfl g0))) rfl)) ?_
                  refine l_step (y_nil (et g0 rfl)) ?_
                  refine l_step (y_fld fld_31_0 (et g0 rfl)) ?_
                  refine l_step (y_slA000 Hvaa.underlying25 sz_5 (et g0 rfl) ) ?_
                  refine l_eff (e_callV cal_33 (aC (et g0 rfl) aN) (nat_fromRow hF (kS.row rE1) kS.lt (bd_A eo.coinbase) (by decide))) (fun v28 w28 h28 => ?_)
                  obtain ⟨H28, g28, n28⟩ := h28
                  have hlew28 := g28.le
                  replace hA := hA.mono hlew28
                  replace hL0 := hL0.trans hlew28
                  replace kS := kS.up g28.up
                  replace U := U.tr g28.up
                  replace G := G.tr g28
                  replace hF := g28.fz
                  refine l_step (y_assignV (et g0 rfl)) ?_
                  refine l_nil ?_
                  refine hK27 _ _ ?_
                  refine fg1 6 g0 (fun g => ?_)
                  refine c_ret ?_
                  refine hQ5 _ _ _ (in_ret ?_)
                  repeat with_reducible refine then_ret ?_
                  refine ret1 rfl (res_tmp (et g0 rfl)) ?_
                  exact ⟨_, G, nvb (n := 20) n28 (bd_A eo.coinbase) (by decide) (by rw [bvN, if_neg (by omega), if_pos (by omega)])⟩)
              · skip
                simp only [Bool.and_eq_true, Bool.or_eq_true, Bool.and_eq_false_imp, Bool.or_eq_false_iff, decide_eq_true_eq, decide_eq_false_iff_not] at cB4
                refine c_seq (fun K29 hK29 => ?_)
                exact (by
                  refine c_region ?_
                  refine l_step (y_eql (et (gS rfl (gS rfl g0)) rfl) rfl) ?_
                  refine l_step (y_assignV (et g0 rfl)) ?_
                  refine l_nil ?_
                  refine hK29 _ _ ?_
                  refine fg4 0 7 15 58 (gS rfl (gS rfl (gS rfl (gS rfl (gS rfl (gS rfl g0)))))) (gS rfl (gS rfl (gS rfl (gS rfl (gS rfl g0))))) (gS rfl (gS rfl (gS rfl (gS rfl g0)))) g0 (fun g => ?_)
                  refine c_condV (i := 58) g0 rfl (fun cB5 => ?_) (fun cB5 => ?_)
                  · skip
                    simp only [Bool.and_eq_true, Bool.or_eq_true, Bool.and_eq_false_imp, Bool.or_eq_false_iff, decide_eq_true_eq, decide_eq_false_iff_not] at cB5
                    refine c_seq (fun K31 hK31 => ?_)
                    exact (by
                      refine c_region ?_
                      refine l_step (y_moveV (et (gS rfl (gS rfl (gS rfl g0))) rfl)) ?_
                      refine l_step (y_nil (et g0 rfl)) ?_
                      refine l_step (y_fld fld_31_2 (et g0 rfl)) ?_
                      refine l_step (y_load1 one_26 (et g0 rfl) (at1 (kS.cell (rE2 1 _ rfl)))) ?_
                      refine l_eff (e_callV cal_32 (aC (et g0 rfl) aN) (yp_num hF (eo.time))) (fun v32 w32 h32 => ?_)
                      obtain ⟨H32, g32, n32⟩ := h32
                      have hlew32 := g32.le
                      replace hA := hA.mono hlew32
                      replace hL0 := hL0.trans hlew32
                      replace kS := kS.up g32.up
                      replace U := U.tr g32.up
                      replace G := G.tr g32
                      replace hF := g32.fz
                      have q32 := bd_64 (eo.time)
                      refine l_step (y_assignV (et g0 rfl)) ?_
                      refine l_nil ?_
                      refine hK31 _ _ ?_
                      refine fg1 6 g0 (fun g => ?_)
                      refine c_ret ?_
                      refine hQ5 _ _ _ (in_ret ?_)
                      repeat with_reducible refine then_ret ?_
                      refine ret1 rfl (res_tmp (et g0 rfl)) ?_
                      exact ⟨_, G, nvb (n := 8) n32 q32 (by decide) (by rw [bvN, if_neg (by omega), if_neg (by omega), if_pos (by omega)])⟩)
                  · skip
                    simp only [Bool.and_eq_true, Bool.or_eq_true, Bool.and_eq_false_imp, Bool.or_eq_false_iff, decide_eq_true_eq, decide_eq_false_iff_not] at cB5
                    refine c_seq (fun K33 hK33 => ?_)
                    exact (by
                      refine c_region ?_
                      refine l_step (y_eql (et (gS rfl (gS rfl g0)) rfl) rfl) ?_
                      refine l_step (y_assignV (et g0 rfl)) ?_
                      refine l_nil ?_
                      refine hK33 _ _ ?_
                      refine fg4 0 7 15 65 (gS rfl (gS rfl (gS rfl (gS rfl (gS rfl (gS rfl g0)))))) (gS rfl (gS rfl (gS rfl (gS rfl (gS rfl g0))))) (gS rfl (gS rfl (gS rfl (gS rfl g0)))) g0 (fun g => ?_)
                      refine c_condV (i := 65) g0 rfl (fun cB6 => ?_) (fun cB6 => ?_)
                      · skip
                        simp only [Bool.and_eq_true, Bool.or_eq_true, Bool.and_eq_false_imp, Bool.or_eq_false_iff, decide_eq_true_eq, decide_eq_false_iff_not] at cB6
                        refine c_seq (fun K35 hK35 => ?_)
                        exact (by
                          refine c_region ?_
                          refine l_step (y_moveV (et (gS rfl (gS rfl (gS rfl g0))) rfl)) ?_
                          refine l_step (y_nil (et g0 rfl)) ?_
                          refine l_step (y_fld fld_31_1 (et g0 rfl)) ?_
                          refine l_step (y_load1 one_26 (et g0 rfl) (at1 (kS.cell (rE2 0 _ rfl)))) ?_
                          refine l_eff (e_callV cal_32 (aC (et g0 rfl) aN) (yp_num hF (eo.number))) (fun v36 w36 h36 => ?_)
                          obtain ⟨H36, g36, n36⟩ := h36
                          have hlew36 := g36.le
                          replace hA := hA.mono hlew36
                          replace hL0 := hL0.trans hlew36
                          replace kS := kS.up g36.up
                          replace U := U.tr g36.up
                          replace G := G.tr g36
                          replace hF := g36.fz
                          have q36 := bd_64 (eo.number)
                          refine l_step (y_assignV (et g0 rfl)) ?_
                          refine l_nil ?_
                          refine hK35 _ _ ?_
                          refine fg1 6 g0 (fun g => ?_)
                          refine c_ret ?_
                          refine hQ5 _ _ _ (in_ret ?_)
                          repeat with_reducible refine then_ret ?_
                          refine ret1 rfl (res_tmp (et g0 rfl)) ?_
                          exact ⟨_, G, nvb (n := 8) n36 q36 (by decide) (by rw [bvN, if_neg (by omega), if_neg (by omega), if_neg (by omega), if_pos (by omega)])⟩)
                      · skip
                        simp only [Bool.and_eq_true, Bool.or_eq_true, Bool.and_eq_false_imp, Bool.or_eq_false_iff, decide_eq_true_eq, decide_eq_false_iff_not] at cB6
                        refine c_seq (fun K37 hK37 => ?_)
                        exact (by
                          refine c_region ?_
                          refine l_step (y_eql (et (gS rfl (gS rfl g0)) rfl) rfl) ?_
                          refine l_step (y_assignV (et g0 rfl)) ?_
                          refine l_nil ?_
                          refine hK37 _ _ ?_
                          refine fg4 0 7 15 72 (gS rfl (gS rfl (gS rfl (gS rfl (gS rfl (gS rfl g0)))))) (gS rfl (gS rfl (gS rfl (gS rfl (gS rfl g0))))) (gS rfl (gS rfl (gS rfl (gS rfl g0)))) g0 (fun g => ?_)
                          refine c_condV (i := 72) g0 rfl (fun cB7 => ?_) (fun cB7 => ?_)
                          · skip
                            simp only [Bool.and_eq_true, Bool.or_eq_true, Bool.and_eq_false_imp, Bool.or_eq_false_iff, decide_eq_true_eq, decide_eq_false_iff_not] at cB7
                            refine c_seq (fun K39 hK39 => ?_)
                            exact (by
                              refine c_region ?_
                              refine l_step (y_moveV (et (gS rfl (gS rfl (gS rfl g0))) rfl)) ?_
                              refine l_step (y_nil (et g0 rfl)) ?_
                              refine l_step (y_fld fld_31_4 (et g0 rfl)) ?_
                              refine l_step (y_slA000 Hvaa.underlying28 sz_5 (et g0 rfl) ) ?_
                              refine l_eff (e_callV cal_33 (aC (et g0 rfl) aN) (nat_fromRow hF (kS.row rE3) kS.lt (bd_W eo.randao) (by decide))) (fun v40 w40 h40 => ?_)
                              obtain ⟨H40, g40, n40⟩ := h40
                              have hlew40 := g40.le
                              replace hA := hA.mono hlew40
                              replace hL0 := hL0.trans hlew40
                              replace kS := kS.up g40.up
                              replace U := U.tr g40.up
                              replace G := G.tr g40
                              replace hF := g40.fz
                              refine l_step (y_assignV (et g0 rfl)) ?_
                              refine l_nil ?_
                              refine hK39 _ _ ?_
                              refine fg1 6 g0 (fun g => ?_)
                              refine c_ret ?_
                              refine hQ5 _ _ _ (in_ret ?_)
                              repeat with_reducible refine then_ret ?_
                              refine ret1 rfl (res_tmp (et g0 rfl)) ?_
                              exact ⟨_, G, nvb (n := 32) n40 (bd_W eo.randao) (by decide) (by rw [bvN, if_neg (by omega), if_neg (by omega), if_neg (by omega), if_neg (by omega), if_pos (by omega)])⟩)
                          · skip
                            simp only [Bool.and_eq_true, Bool.or_eq_true, Bool.and_eq_false_imp, Bool.or_eq_false_iff, decide_eq_true_eq, decide_eq_false_iff_not] at cB7
                            refine c_seq (fun K41 hK41 => ?_)
                            exact (by
                              refine c_region ?_
                              refine l_step (y_eql (et (gS rfl (gS rfl g0)) rfl) rfl) ?_
                              refine l_step (y_assignV (et g0 rfl)) ?_
                              refine l_nil ?_
                              refine hK41 _ _ ?_
                              refine fg4 0 7 15 79 (gS rfl (gS rfl (gS rfl (gS rfl (gS rfl (gS rfl g0)))))) (gS rfl (gS rfl (gS rfl (gS rfl (gS rfl g0))))) (gS rfl (gS rfl (gS rfl (gS rfl g0)))) g0 (fun g => ?_)
                              refine c_condV (i := 79) g0 rfl (fun cB8 => ?_) (fun cB8 => ?_)
                              · skip
                                simp only [Bool.and_eq_true, Bool.or_eq_true, Bool.and_eq_false_imp, Bool.or_eq_false_iff, decide_eq_true_eq, decide_eq_false_iff_not] at cB8
                                refine c_seq (fun K43 hK43 => ?_)
                                exact (by
                                  refine c_region ?_
                                  refine l_step (y_moveV (et (gS rfl (gS rfl (gS rfl g0))) rfl)) ?_
                                  refine l_step (y_nil (et g0 rfl)) ?_
                                  refine l_step (y_fld fld_31_3 (et g0 rfl)) ?_
                                  refine l_step (y_load1 one_26 (et g0 rfl) (at1 (kS.cell (rE2 2 _ rfl)))) ?_
                                  refine l_eff (e_callV cal_32 (aC (et g0 rfl) aN) (yp_num hF (eo.gasLimit))) (fun v44 w44 h44 => ?_)
                                  obtain ⟨H44, g44, n44⟩ := h44
                                  have hlew44 := g44.le
                                  replace hA := hA.mono hlew44
                                  replace hL0 := hL0.trans hlew44
                                  replace kS := kS.up g44.up
                                  replace U := U.tr g44.up
                                  replace G := G.tr g44
                                  replace hF := g44.fz
                                  have q44 := bd_64 (eo.gasLimit)
                                  refine l_step (y_assignV (et g0 rfl)) ?_
                                  refine l_nil ?_
                                  refine hK43 _ _ ?_
                                  refine fg1 6 g0 (fun g => ?_)
                                  refine c_ret ?_
                                  refine hQ5 _ _ _ (in_ret ?_)
                                  repeat with_reducible refine then_ret ?_
                                  refine ret1 rfl (res_tmp (et g0 rfl)) ?_
                                  exact ⟨_, G, nvb (n := 8) n44 q44 (by decide) (by rw [bvN, if_neg (by omega), if_neg (by omega), if_neg (by omega), if_neg (by omega), if_neg (by omega), if_pos (by omega)])⟩)
                              · skip
                                simp only [Bool.and_eq_true, Bool.or_eq_true, Bool.and_eq_false_imp, Bool.or_eq_false_iff, decide_eq_true_eq, decide_eq_false_iff_not] at cB8
                                refine c_seq (fun K45 hK45 => ?_)
                                exact (by
                                  refine c_region ?_
                                  refine l_step (y_eql (et (gS rfl (gS rfl g0)) rfl) rfl) ?_
                                  refine l_step (y_assignV (et g0 rfl)) ?_
                                  refine l_nil ?_
                                  refine hK45 _ _ ?_
                                  refine fg3 0 7 86 (gS rfl (gS rfl (gS rfl (gS rfl (gS rfl (gS rfl g0)))))) (gS rfl (gS rfl (gS rfl (gS rfl (gS rfl g0))))) g0 (fun g => ?_)
                                  refine c_condV (i := 86) g0 rfl (fun cB9 => ?_) (fun cB9 => ?_)
                                  · skip
                                    simp only [Bool.and_eq_true, Bool.or_eq_true, Bool.and_eq_false_imp, Bool.or_eq_false_iff, decide_eq_true_eq, decide_eq_false_iff_not] at cB9
                                    refine c_seq (fun K47 hK47 => ?_)
                                    exact (by
                                      refine c_region ?_
                                      refine l_step (y_moveV (et (gS rfl (gS rfl (gS rfl g0))) rfl)) ?_
                                      refine l_eff (e_callV cal_70 (aC (et g0 rfl) aN) (yp_baseFee hF _ _ _ _ kS (hs.mono hL0))) (fun v48 w48 h48 => ?_)
                                      obtain ⟨H48, g48, n48, q48⟩ := h48
                                      have hlew48 := g48.le
                                      replace hA := hA.mono hlew48
                                      replace hL0 := hL0.trans hlew48
                                      replace kS := kS.up g48.up
                                      replace U := U.tr g48.up
                                      replace G := G.tr g48
                                      replace hF := g48.fz
                                      refine l_step (y_assignV (et g0 rfl)) ?_
                                      refine l_nil ?_
                                      refine hK47 _ _ ?_
                                      refine fg1 6 g0 (fun g => ?_)
                                      refine c_ret ?_
                                      refine hQ5 _ _ _ (in_ret ?_)
                                      repeat with_reducible refine then_ret ?_
                                      refine ret1 rfl (res_tmp (et g0 rfl)) ?_
                                      exact ⟨_, G, nvb (n := 32) n48 q48 (by decide) (by rw [bvN, if_neg (by omega), if_neg (by omega), if_neg (by omega), if_neg (by omega), if_neg (by omega), if_neg (by omega), if_pos (by omega)])⟩)
                                  · skip
                                    simp only [Bool.and_eq_true, Bool.or_eq_true, Bool.and_eq_false_imp, Bool.or_eq_false_iff, decide_eq_true_eq, decide_eq_false_iff_not] at cB9
                                    refine c_skip ?_
                                    refine hQ5 _ _ _ (in_normal ?_)
                                    refine hK3 _ _ ?_
                                    refine fg1 7 (gS rfl (gS rfl g0)) (fun g => ?_)
                                    refine c_seq (fun K49 hK49 => ?_)
                                    exact (by
                                      refine c_region ?_
                                      refine l_step (y_moveV (et g0 rfl)) ?_
                                      refine l_step (y_nil (et g0 rfl)) ?_
                                      refine l_step (y_fld fld_31_5 (et g0 rfl)) ?_
                                      refine l_step (y_slA000 Hvaa.underlying28 sz_5 (et g0 rfl) ) ?_
                                      refine l_eff (e_callV cal_33 (aC (et g0 rfl) aN) (nat_fromRow hF (kS.row rE4) kS.lt (bd_W eo.chainID) (by decide))) (fun v50 w50 h50 => ?_)
                                      obtain ⟨H50, g50, n50⟩ := h50
                                      have hlew50 := g50.le
                                      replace hA := hA.mono hlew50
                                      replace hL0 := hL0.trans hlew50
                                      replace kS := kS.up g50.up
                                      replace U := U.tr g50.up
                                      replace G := G.tr g50
                                      replace hF := g50.fz
                                      refine l_step (y_assignV (et g0 rfl)) ?_
                                      refine l_nil ?_
                                      refine hK49 _ _ ?_
                                      refine fg1 6 g0 (fun g => ?_)
                                      refine c_ret ?_
                                      repeat with_reducible refine then_ret ?_
                                      refine ret1 rfl (res_tmp (et g0 rfl)) ?_
                                      exact ⟨_, G, nvb (n := 32) n50 (bd_W eo.chainID) (by decide) (by rw [bvN, if_neg (by omega), if_neg (by omega), if_neg (by omega), if_neg (by omega), if_neg (by omega), if_neg (by omega), if_neg (by omega)])⟩)))))))))))
def stoN (s : YSt) (f : YF) (k v : Nat) : YSt := { s with now := { s.now with refund := s.now.refund - sMinus (yOrig s f) (yVal s f) (argN f.stack 1) + sPlus (yOrig s f) (yVal s f) (argN f.stack 1), warmS := withM s.now.warmS f.self k, accts := putA s.now.accts (setSlots (acctAt s.now.accts f.self) (putS (acctAt s.now.accts f.self).slots k v)) } }
def stoOk (s : YSt) (f : YF) : Bool := decide (sMinus (yOrig s f) (yVal s f) (argN f.stack 1) ≤ s.now.refund)
theorem yp_stores {w : World} {H : Store} (hF : Fz w H) (bs : Nat) (cs : Array Value) (s : YSt) (vf : Value) (kS : Blk w bs cs) (hs : SC H cs s vf) (bf o : Nat) (fs : Array Value) (f : YF) (vm : Value) (kF : Blk w bf fs) (hf : FC H fs o f vm) (nbS : ¬ H.has bs) (dSF : bs ≠ bf) (rm : SRm s) {v1 v2 : Value} {k v_ : Nat} (h1 : NV H v1 k) (h2 : NV H v2 v_) (s1 : k < 256 ^ 32) (s2 : v_ < 256 ^ 32) :
    Ret 235 [.pointer (some ⟨bs, 0, none⟩), .pointer (some ⟨bf, o, none⟩), v1, v2] w (fun v w' => ∃ cs' H', v = .bool (stoOk s f) ∧ Go (fun k => k = bs) w H w' H' ∧ Blk w' bs cs' ∧ SC H' cs' (if stoOk s f = true then stoN s f k v_ else s) vf ∧ cs'[4]? = cs[4]?) := by
  obtain ⟨aa, ac, wa, wc, sa, sc, vr, la, lc, ta, tc, ma, mc, ga, gc, oa, oc, ra, rc, vlim, vtx, vleft, vpr, vtot, rS, rOr, rMd, hAc, hWA, hWS, hRf, hTm, hMd, hGn, hSr, hRt, hLm, hTx, hLf, hPr, hTt⟩ := hs.ex
  have so := hs.ok
  have so1 := so.accts
  have so2 := so.warmA
  have so3 := so.warmS
  have so4 := so.temps
  have so5 := so.start
  have so6 := so.logs
  have so7 := so.made
  have so8 := so.gone
  have so9 := so.ret
  have eC := hs.env
  obtain ⟨vpc, vgas, vval, voo, vol, ka, kc, ca, cc, ia, ic, svc, rF, rSe, rCa, rSv, hSv, hPc, hGa, hVa, hOo, hOl, hSt, hCo, hIn⟩ := hf.ex
  have fo := hf.ok
  have fo1 := fo.stack
  have fo2 := fo.code
  have fo3 := fo.input
  have fo4 := fo.mem
  have lS := kS.lt
  have lF := kF.lt
  have hv4 := rS 4 _ rfl
  refine enter (n := 59) Hvaa.func235 rfl rfl (Nat.le_of_ble_eq_true rfl) ?_
  have U : Ch (fun k => k = bs) w w := Ch.refl _ w
  have G : Go (fun k => k = bs) w H w H := Go.refl hF
  have hL0 : Le H H := Le.refl H
  refine c_seq (fun K1 hK1 => ?_)
  exact (by
    refine c_region ?_
    refine l_step y_assignC ?_
    refine l_nil ?_
    refine hK1 _ _ ?_
    refine fg4 3 2 1 0 (gS rfl (gS rfl (gS rfl (gS rfl g0)))) (gS rfl (gS rfl (gS rfl g0))) (gS rfl (gS rfl g0)) (gS rfl g0) (fun g => ?_)
    refine c_seq (fun K2 hK2 => ?_)
    exact (by
      refine c_region ?_
      refine l_step (y_moveV (et g0 rfl)) ?_
      refine l_step (y_moveV (et (gS rfl (gS rfl g0)) rfl)) ?_
      refine l_eff (e_callV cal_334 (aC (et (gS rfl g0) rfl) (aC (et g0 rfl) aN)) (yp_sstore hF _ _ _ _ kS (hs.mono hL0) _ _ _ _ _ kF (hf.mono hL0))) (fun v3 w3 h3 => ?_)
      obtain ⟨za3, zb3, zc3, H3, rfl, g3, n3, m3, l3⟩ := h3
      have hlew3 := g3.le
      replace nbS := g3.nb nbS kS.lt
      replace h1 := h1.mono hlew3
      replace h2 := h2.mono hlew3
      replace hL0 := hL0.trans hlew3
      replace kS := kS.up g3.up
      replace kF := kF.up g3.up
      replace U := U.tr g3.up
      replace G := G.tr g3
      replace hF := g3.fz
      refine l_step (y_moveV (et g0 rfl)) ?_
      refine l_step (y_ext (et g0 rfl) rfl) ?_
      refine l_step (y_ext (et (gS rfl g0) rfl) rfl) ?_
      refine l_step (y_ext (et (gS rfl (gS rfl g0)) rfl) rfl) ?_
      refine l_step (y_assignV (et (gS rfl (gS rfl g0)) rfl)) ?_
      refine l_step (y_assignV (et (gS rfl (gS rfl g0)) rfl)) ?_
      refine l_step (y_assignV (et (gS rfl (gS rfl g0)) rfl)) ?_
      refine l_nil ?_
      refine hK2 _ _ ?_
      refine fg6 3 2 1 0 10 11 (gS rfl (gS rfl (gS rfl (gS rfl (gS rfl (gS rfl (gS rfl (gS rfl (gS rfl (gS rfl (gS rfl (gS rfl (gS rfl g0))))))))))))) (gS rfl (gS rfl (gS rfl (gS rfl (gS rfl (gS rfl (gS rfl (gS rfl (gS rfl (gS rfl (gS rfl (gS rfl g0)))))))))))) (gS rfl (gS rfl (gS rfl (gS rfl (gS rfl (gS rfl (gS rfl (gS rfl (gS rfl (gS rfl (gS rfl g0))))))))))) (gS rfl (gS rfl (gS rfl (gS rfl (gS rfl (gS rfl (gS rfl (gS rfl (gS rfl (gS rfl g0)))))))))) (gS rfl g0) g0 (fun g => ?_)
      refine c_seq (fun K4 hK4 => ?_)
      exact (by
        refine c_region ?_
        refine l_step (y_moveV (et (gS rfl (gS rfl g0)) rfl)) ?_
        refine l_step (y_nil (et g0 rfl)) ?_
        refine l_step (y_fld fld_102_0 (et g0 rfl)) ?_
        refine l_step (y_fld fld_98_3 (et g0 rfl)) ?_
        refine l_step (y_load1 one_95 (et g0 rfl) (at1 (kS.cell (rS 3 _ rfl)))) ?_
        refine l_step (y_moveV (et (gS rfl (gS rfl (gS rfl (gS rfl (gS rfl g0))))) rfl)) ?_
        refine l_eff (e_callV cal_125 (aC (et (gS rfl g0) rfl) (aC (et g0 rfl) aN)) (nat_sub hF (hRf.mono hL0) l3 (bd_sm (bd_64 so.refund) (by decide)) (bd_sm (bd_lt2 (b := 256 ^ 2) (sMinus_lt (yOrig s f) (yVal s f) (argN f.stack 1)) (by decide)) (by decide)))) (fun v5 w5 h5 => ?_)
        obtain ⟨z5, H5, rfl, g5, n5⟩ := h5
        have hlew5 := g5.le
        replace nbS := g5.nb nbS kS.lt
        replace h1 := h1.mono hlew5
        replace h2 := h2.mono hlew5
        replace n3 := n3.mono hlew5
        replace m3 := m3.mono hlew5
        replace l3 := l3.mono hlew5
        replace hL0 := hL0.trans hlew5
        replace kS := kS.up g5.up
        replace kF := kF.up g5.up
        replace U := U.tr g5.up
        replace G := G.tr g5
        replace hF := g5.fz
        have q5 := bd_sub' n5 (bd_64 so.refund)
        refine l_step (y_moveV (et g0 rfl)) ?_
        refine l_step (y_ext (et g0 rfl) rfl) ?_
        refine l_step (y_ext (et (gS rfl g0) rfl) rfl) ?_
        refine l_step (y_assignV (et (gS rfl g0) rfl)) ?_
        refine l_step (y_assignV (et (gS rfl g0) rfl)) ?_
        refine l_nil ?_
        refine hK4 _ _ ?_
        refine fg7 3 2 1 0 10 12 13 (gS rfl (gS rfl (gS rfl (gS rfl (gS rfl (gS rfl (gS rfl (gS rfl (gS rfl (gS rfl (gS rfl (gS rfl (gS rfl (gS rfl (gS rfl (gS rfl (gS rfl g0))))))))))))))))) (gS rfl (gS rfl (gS rfl (gS rfl (gS rfl (gS rfl (gS rfl (gS rfl (gS rfl (gS rfl (gS rfl (gS rfl (gS rfl (gS rfl (gS rfl (gS rfl g0)))))))))))))))) (gS rfl (gS rfl (gS rfl (gS rfl (gS rfl (gS rfl (gS rfl (gS rfl (gS rfl (gS rfl (gS rfl (gS rfl (gS rfl (gS rfl (gS rfl g0))))))))))))))) (gS rfl (gS rfl (gS rfl (gS rfl (gS rfl (gS rfl (gS rfl (gS rfl (gS rfl (gS rfl (gS rfl (gS rfl (gS rfl (gS rfl g0)))))))))))))) (gS rfl (gS rfl (gS rfl (gS rfl (gS rfl (gS rfl (gS rfl (gS rfl (gS rfl (gS rfl (gS rfl (gS rfl (gS rfl g0))))))))))))) (gS rfl g0) g0 (fun g => ?_)
        refine c_seq (fun K6 hK6 => ?_)
        refine c_seq (fun K7 hK7 => ?_)
        exact (by
          refine c_region ?_
          refine l_step (y_moveV (et g0 rfl)) ?_
          refine l_step (y_not (et g0 rfl)) ?_
          refine l_nil ?_
          refine hK7 _ _ ?_
          refine fg7 3 2 1 0 10 12 32 (gS rfl (gS rfl (gS rfl (gS rfl (gS rfl (gS rfl (gS rfl (gS rfl g0)))))))) (gS rfl (gS rfl (gS rfl (gS rfl (gS rfl (gS rfl (gS rfl g0))))))) (gS rfl (gS rfl (gS rfl (gS rfl (gS rfl (gS rfl g0)))))) (gS rfl (gS rfl (gS rfl (gS rfl (gS rfl g0))))) (gS rfl (gS rfl (gS rfl (gS rfl g0)))) (gS rfl (gS rfl (gS rfl g0))) g0 (fun g => ?_)
          refine c_cond (et g0 rfl) (fun cB1 => ?_) (fun cB1 => ?_)
          · skip
            simp only [Bool.not_eq_true', decide_eq_false_iff_not, Bool.not_eq_false', decide_eq_true_eq] at cB1
            refine c_seq (fun K9 hK9 => ?_)
            exact (by
              refine c_region ?_
              refine l_step y_assignC ?_
              refine l_nil ?_
              refine hK9 _ _ ?_
              refine fg1 8 g0 (fun g => ?_)
              refine c_ret ?_
              repeat with_reducible refine then_ret ?_
              refine ret1 rfl (res_tmp (et g0 rfl)) ?_
              refine ⟨_, _, ?_, G, kS, ?_, rfl⟩
              · rw [stoOk]; exact congrArg Value.bool (by simp; omega)
              · rw [show stoOk s f = false by rw [stoOk]; simp; omega]; exact hs.mono hL0)
          · skip
            simp only [Bool.not_eq_true', decide_eq_false_iff_not, Bool.not_eq_false', decide_eq_true_eq] at cB1
            refine c_skip ?_
            refine hK6 _ _ ?_
            refine fg6 3 2 1 0 10 12 (gS rfl (gS rfl (gS rfl (gS rfl (gS rfl (gS rfl g0)))))) (gS rfl (gS rfl (gS rfl (gS rfl (gS rfl g0))))) (gS rfl (gS rfl (gS rfl (gS rfl g0)))) (gS rfl (gS rfl (gS rfl g0))) (gS rfl (gS rfl g0)) (gS rfl g0) (fun g => ?_)
            refine c_seq (fun K10 hK10 => ?_)
            exact (by
              refine c_region ?_
              refine l_step (y_moveV (et (gS rfl (gS rfl g0)) rfl)) ?_
              refine l_step (y_moveV (et (gS rfl g0) rfl)) ?_
              refine l_step (y_moveV (et (gS rfl (gS rfl (gS rfl g0))) rfl)) ?_
              refine l_eff (e_callV cal_34 (aC (et (gS rfl g0) rfl) (aC (et g0 rfl) aN)) (nat_add hF n5 m3 (bd_sm q5 (by decide)) (bd_sm (bd_lt2 (b := 256 ^ 2) (sPlus_lt (yOrig s f) (yVal s f) (argN f.stack 1)) (by decide)) (by decide)))) (fun v11 w11 h11 => ?_)
              obtain ⟨H11, g11, n11⟩ := h11
              have hlew11 := g11.le
              replace nbS := g11.nb nbS kS.lt
              replace h1 := h1.mono hlew11
              replace h2 := h2.mono hlew11
              replace n3 := n3.mono hlew11
              replace m3 := m3.mono hlew11
              replace l3 := l3.mono hlew11
              replace n5 := n5.mono hlew11
              replace hL0 := hL0.trans hlew11
              replace kS := kS.up g11.up
              replace kF := kF.up g11.up
              replace U := U.tr g11.up
              replace G := G.tr g11
              replace hF := g11.fz
              have q11 := bd_add (c := 9) q5 (bd_lt2 (b := 256 ^ 2) (sPlus_lt (yOrig s f) (yVal s f) (argN f.stack 1)) (by decide)) (by decide)
              refine l_step (y_nil (et (gS rfl (gS rfl (gS rfl g0))) rfl)) ?_
              refine l_step (y_fld fld_102_0 (et g0 rfl)) ?_
              refine l_step (y_fld fld_98_3 (et g0 rfl)) ?_
              obtain ⟨sa12, sn12, sc12, rfl⟩ := n11.sl
              have rl12 := RowIn.le rS (Nat.succ_pos _)
              simp only [List.length_cons, List.length_nil, Nat.zero_add, Nat.reduceAdd] at rl12
              refine l_effN (e_store sz_95 (et g0 rfl) (cellsV (et (gS rfl (gS rfl (gS rfl g0))) rfl) rfl) rfl (by first | exact one_bL _ | exact one_uL _ | (intro v hv; simp at hv; subst hv; rfl)) kS (by first | exact Nat.le_of_ble_eq_true rfl | (simp; done) | (simp; omega) | omega)) (fun v12 w12 h12 => ?_)
              obtain ⟨rfl, x12⟩ := h12
              replace kF := kF.ch x12.ch (by omega)
              replace kS := x12.blk
              replace G := G.wr x12 (.inl (by first | rfl | (simp; done))) nbS
              replace hF := G.fz
              replace U := U.st x12 (.inl (by first | rfl | (simp; done)))
              replace eC := kS.eput eC (by omega)
              replace rS : RowIn _ _ [.slice aa s.now.accts.length ac, .slice wa s.now.warmA.length wc, .slice sa s.now.warmS.length sc, _, .slice la s.now.logs.length lc, .slice ta s.now.temps.length tc, .slice ma s.now.made.length mc, .slice ga s.now.gone.length gc, .slice oa s.start.length oc, vf, .slice ra s.ret.length rc, .int .u8 (s.phase : Nat), .int .u8 (s.status : Nat), .int .u8 (s.applied : Nat), vlim, vtx, vleft, vpr, vtot] := kS.rput rS 3 rfl
              replace rOr := kS.rputo rOr (by first | (left; omega) | (right; simp only [List.length_cons, List.length_nil, length_bL, length_be]; omega))
              replace rMd := kS.rputo rMd (by first | (left; omega) | (right; simp only [List.length_cons, List.length_nil, length_bL, length_be]; omega))
              refine l_nil ?_
              refine hK10 _ _ ?_
              refine fg4 3 2 1 0 (gS rfl (gS rfl (gS rfl (gS rfl (gS rfl (gS rfl (gS rfl (gS rfl (gS rfl (gS rfl (gS rfl (gS rfl g0)))))))))))) (gS rfl (gS rfl (gS rfl (gS rfl (gS rfl (gS rfl (gS rfl (gS rfl (gS rfl (gS rfl (gS rfl g0))))))))))) (gS rfl (gS rfl (gS rfl (gS rfl (gS rfl (gS rfl (gS rfl (gS rfl (gS rfl (gS rfl g0)))))))))) (gS rfl (gS rfl (gS rfl (gS rfl (gS rfl (gS rfl (gS rfl (gS rfl (gS rfl g0))))))))) (fun g => ?_)
              refine c_seq (fun K13 hK13 => ?_)
              exact (by
                refine c_draw Up 8 [(0, true), (1, true), (2, true), (3, true), (4, true), (5, true), (6, true), (7, true), (8, false)] (by kernel_rfl) (fun w14 hu => ⟨Up.refl _, ?_⟩)
                replace G := G.tr (Go.ofUp hF hu)
                replace hF := hF.up hu
                replace kS := kS.up hu
                replace kF := kF.up hu
                replace U := U.tr hu
                have SU := Up.refl w14
                refine p_step (by exact rfl) (y_moveV (et g0 rfl)) ?_
                refine p_step (by exact rfl) (y_nil (et g0 rfl)) ?_
                refine p_step (by exact rfl) (y_fld fld_102_0 (et g0 rfl)) ?_
                refine p_step (by exact rfl) (y_moveV (et (gS rfl (gS rfl (gS rfl (gS rfl g0)))) rfl)) ?_
                refine p_step (by exact rfl) (y_nil (et g0 rfl)) ?_
                refine p_step (by exact rfl) (y_fld fld_146_12 (et g0 rfl)) ?_
                refine p_step (by exact rfl) (y_loadR agg_25 sz_25 (et g0 rfl) (by rw [length_bL, length_be]) (atSR (kF.row rSe))) ?_
                refine p_step (by exact rfl) (y_moveV (et (gS rfl (gS rfl (gS rfl (gS rfl (gS rfl (gS rfl (gS rfl (gS rfl (gS rfl g0))))))))) rfl)) ?_
                refine p_eff (by exact rfl) (e_callV cal_52 (aC (et (gS rfl (gS rfl (gS rfl (gS rfl (gS rfl g0))))) rfl) (aC (et (gS rfl g0) rfl) (aC (et g0 rfl) aN))) (yp_warmSlot _ _ _ _ _ _ _ _ _ hF kS nbS (rS 2 _ rfl) (hWS.mono hL0) fo.self (by omega) h1 (bd_up s1 (by decide)))) (fun v15 w15 h15 => ?_)
                obtain ⟨rfl, z15, H15, g15, lv15, kx15⟩ := h15
                have hlew15 := g15.le
                replace nbS := g15.nb nbS kS.lt
                replace h1 := h1.mono hlew15
                replace h2 := h2.mono hlew15
                replace n3 := n3.mono hlew15
                replace m3 := m3.mono hlew15
                replace l3 := l3.mono hlew15
                replace n5 := n5.mono hlew15
                replace n11 := n11.mono hlew15
                replace hL0 := hL0.trans hlew15
                replace kF := kF.ch g15.ch (by omega)
                replace kS := kx15
                replace U := U.cc g15.ch (by intro b hb; first | omega | exact .inl hb | exact .inr (hb ▸ U))
                replace G := G.trans g15 (by intro b hb; first | omega | exact .inl hb | (simp at hb ⊢; omega))
                replace hF := g15.fz
                obtain ⟨xa15, xc15, rfl, hxl15, hxc15⟩ := lv15.val
                replace eC := kS.eset eC (by omega)
                replace rS : RowIn _ _ [.slice aa s.now.accts.length ac, .slice wa s.now.warmA.length wc, _, _, .slice la s.now.logs.length lc, .slice ta s.now.temps.length tc, .slice ma s.now.made.length mc, .slice ga s.now.gone.length gc, .slice oa s.start.length oc, vf, .slice ra s.ret.length rc, .int .u8 (s.phase : Nat), .int .u8 (s.status : Nat), .int .u8 (s.applied : Nat), vlim, vtx, vleft, vpr, vtot] := kS.rset rS 2 rfl
                replace rOr := kS.rseto rOr (by first | (left; omega) | (right; simp only [List.length_cons, List.length_nil, length_bL, length_be]; omega))
                replace rMd := kS.rseto rMd (by first | (left; omega) | (right; simp only [List.length_cons, List.length_nil, length_bL, length_be]; omega))
                refine ⟨.inl rfl, ?_⟩
                refine p_nil ?_
                refine hK13 _ _ ?_
                refine fg4 3 2 1 0 (gS rfl (gS rfl (gS rfl (gS rfl (gS rfl (gS rfl (gS rfl (gS rfl (gS rfl (gS rfl (gS rfl (gS rfl g0)))))))))))) (gS rfl (gS rfl (gS rfl (gS rfl (gS rfl (gS rfl (gS rfl (gS rfl (gS rfl (gS rfl (gS rfl g0))))))))))) (gS rfl (gS rfl (gS rfl (gS rfl (gS rfl (gS rfl (gS rfl (gS rfl (gS rfl (gS rfl g0)))))))))) (gS rfl (gS rfl (gS rfl (gS rfl (gS rfl (gS rfl (gS rfl (gS rfl (gS rfl g0))))))))) (fun g => ?_)
                refine c_seq (fun K16 hK16 => ?_)
                exact (by
                  refine c_draw Up 9 [(0, true), (1, true), (2, true), (3, true), (4, true), (5, true), (6, true), (7, true), (8, true), (9, false)] (by kernel_rfl) (fun w17 hu => ⟨Up.refl _, ?_⟩)
                  replace G := G.tr (Go.ofUp hF hu)
                  replace hF := hF.up hu
                  replace kS := kS.up hu
                  replace kF := kF.up hu
                  replace U := U.tr hu
                  have SU := Up.refl w17
                  refine p_step (by exact rfl) (y_moveV (et g0 rfl)) ?_
                  refine p_step (by exact rfl) (y_nil (et g0 rfl)) ?_
                  refine p_step (by exact rfl) (y_fld fld_102_0 (et g0 rfl)) ?_
                  refine p_step (by exact rfl) (y_moveV (et (gS rfl (gS rfl (gS rfl (gS rfl g0)))) rfl)) ?_
                  refine p_step (by exact rfl) (y_nil (et g0 rfl)) ?_
                  refine p_step (by exact rfl) (y_fld fld_146_12 (et g0 rfl)) ?_
                  refine p_step (by exact rfl) (y_loadR agg_25 sz_25 (et g0 rfl) (by rw [length_bL, length_be]) (atSR (kF.row rSe))) ?_
                  refine p_step (by exact rfl) (y_moveV (et (gS rfl (gS rfl (gS rfl (gS rfl (gS rfl (gS rfl (gS rfl (gS rfl (gS rfl g0))))))))) rfl)) ?_
                  refine p_step (by exact rfl) (y_moveV (et (gS rfl (gS rfl (gS rfl (gS rfl (gS rfl (gS rfl (gS rfl (gS rfl (gS rfl (gS rfl (gS rfl g0))))))))))) rfl)) ?_
                  refine p_eff (by exact rfl) (e_callV cal_349 (aC (et (gS rfl (gS rfl (gS rfl (gS rfl (gS rfl (gS rfl g0)))))) rfl) (aC (et (gS rfl (gS rfl g0)) rfl) (aC (et (gS rfl g0) rfl) (aC (et g0 rfl) aN)))) (yp_store _ _ _ _ _ _ _ _ _ hF kS nbS (rS 0 _ rfl) (hAc.mono hL0) fo.self (by omega) (by have := rm.slots f.self; omega) h1 (bd_up s1 (by decide)) h2 (bd_up s2 (by decide)))) (fun v18 w18 h18 => ?_)
                  obtain ⟨rfl, z18, H18, g18, lv18, kx18⟩ := h18
                  have hlew18 := g18.le
                  replace nbS := g18.nb nbS kS.lt
                  replace h1 := h1.mono hlew18
                  replace h2 := h2.mono hlew18
                  replace n3 := n3.mono hlew18
                  replace m3 := m3.mono hlew18
                  replace l3 := l3.mono hlew18
                  replace n5 := n5.mono hlew18
                  replace n11 := n11.mono hlew18
                  replace lv15 := lv15.mono hlew18
                  replace hL0 := hL0.trans hlew18
                  replace kF := kF.ch g18.ch (by omega)
                  replace kS := kx18
                  replace U := U.cc g18.ch (by intro b hb; first | omega | exact .inl hb | exact .inr (hb ▸ U))
                  replace G := G.trans g18 (by intro b hb; first | omega | exact .inl hb | (simp at hb ⊢; omega))
                  replace hF := g18.fz
                  obtain ⟨xa18, xc18, rfl, hxl18, hxc18⟩ := lv18.val
                  replace eC := kS.eset eC (by omega)
                  replace rS : RowIn _ _ [_, .slice wa s.now.warmA.length wc, _, _, .slice la s.now.logs.length lc, .slice ta s.now.temps.length tc, .slice ma s.now.made.length mc, .slice ga s.now.gone.length gc, .slice oa s.start.length oc, vf, .slice ra s.ret.length rc, .int .u8 (s.phase : Nat), .int .u8 (s.status : Nat), .int .u8 (s.applied : Nat), vlim, vtx, vleft, vpr, vtot] := kS.rset rS 0 rfl
                  replace rOr := kS.rseto rOr (by first | (left; omega) | (right; simp only [List.length_cons, List.length_nil, length_bL, length_be]; omega))
                  replace rMd := kS.rseto rMd (by first | (left; omega) | (right; simp only [List.length_cons, List.length_nil, length_bL, length_be]; omega))
                  refine ⟨.inl rfl, ?_⟩
                  refine p_nil ?_
                  refine hK16 _ _ ?_
                  refine fg0 (fun g => ?_)
                  refine c_seq (fun K19 hK19 => ?_)
                  exact (by
                    refine c_region ?_
                    refine l_step y_assignC ?_
                    refine l_nil ?_
                    refine hK19 _ _ ?_
                    refine c_ret ?_
                    repeat with_reducible refine then_ret ?_
                    refine ret1 rfl (res_tmp (et g0 rfl)) ?_
                    have hOk : stoOk s f = true := by rw [stoOk]; simp; omega
                    rw [hOk]
                    have hp := sPlus_lt (yOrig s f) (yVal s f) (argN f.stack 1)
                    exact ⟨_, _, rfl, G, kS, ⟨⟨by show (putA s.now.accts _).length < _; have := putA_len s.now.accts (setSlots (acctAt s.now.accts f.self) (putS (acctAt s.now.accts f.self).slots k v_)); have := rm.accts; omega, so.warmA, by show (withM s.now.warmS f.self k).length < _; have := len_withM s.now.warmS f.self k; have := rm.warmS; omega, by show s.now.refund - sMinus (yOrig s f) (yVal s f) (argN f.stack 1) + sPlus (yOrig s f) (yVal s f) (argN f.stack 1) < _; have := rm.refund; omega, so.logs, so.temps, so.made, so.gone, so.start, so.ret, so.phase, so.status, so.applied, so.limit, so.txGas, so.left, so.price, so.total, so.origin, so.mad⟩, eC.mono hL0, (by simp only [size_spl, Array.size_setIfInBounds]; exact hs.size), _, _, _, _, _, _, _, _, _, _, _, _, _, _, _, _, _, _, _, _, _, _, _, _, rS, rOr, rMd, lv18, (hWA.mono hL0), lv15, n11, (hTm.mono hL0), (hMd.mono hL0), (hGn.mono hL0), (hSr.mono hL0), (hRt.mono hL0), (hLm.mono hL0), (hTx.mono hL0), (hLf.mono hL0), (hPr.mono hL0), (hTt.mono hL0)⟩, (rS 4 _ rfl).trans hv4.symm⟩))))))))
end Go.Proofs.YgvaawGreat
