import Derived.Test.YgvaawGreatZ3
set_option maxRecDepth 100000
set_option maxHeartbeats 4000000
set_option linter.unusedSimpArgs false
set_option linter.unusedVariables false
namespace Go.Proofs.YgvaawGreat
open Go
theorem Blk.rowO {w : World} {b o p : Nat} {cs : Array Value} {l : List Value} (h : Blk w b cs) (hr : RowIn cs p l) (e : o = p) : Row w b o l := by subst e; exact h.row hr
section
variable {w : World} {H : Store} {col : Nat → Nat} {bc : Nat} {cs : Array Value} {V : EV} {s : YSt} {sn : List Nat} {sv : List AW} {ms : List (List Nat)} {c : Nat}
theorem EX.em (hE : EX w H col bc cs V s sn sv ms c) (a : Nat) : emA (ax V a) = emptyB (acctAt s.now.accts a) := by
  have h := hE.px.va.abs
  have h1 : (ax V a).nonce = (acctAt s.now.accts a).nonce := congrFun (congrArg AW.nonce h) a
  have h2 : (ax V a).bal = (acctAt s.now.accts a).bal := congrFun (congrArg AW.bal h) a
  have h3 : (ax V a).code = (acctAt s.now.accts a).code := congrFun (congrArg AW.code h) a
  unfold emA emptyB
  rw [h1, h2, h3]
theorem EX.wa (hE : EX w H col bc cs V s sn sv ms c) (a : Nat) : (absV V).warmA a = decide (a ∈ s.now.warmA) := by rw [hE.px.va.abs]; rfl
theorem EX.bl (hE : EX w H col bc cs V s sn sv ms c) (a : Nat) : (absV V).bal a = (acctAt s.now.accts a).bal := by rw [hE.px.va.abs]; rfl
theorem EX.no (hE : EX w H col bc cs V s sn sv ms c) (a : Nat) : (absV V).nonce a = (acctAt s.now.accts a).nonce := by rw [hE.px.va.abs]; rfl
theorem EX.cd (hE : EX w H col bc cs V s sn sv ms c) (a : Nat) : (absV V).code a = (acctAt s.now.accts a).code := by rw [hE.px.va.abs]; rfl
theorem EX.ws (hE : EX w H col bc cs V s sn sv ms c) (a k : Nat) : (absV V).warmS a k = decide ((a, k) ∈ s.now.warmS) := by rw [hE.px.va.abs]; rfl
theorem EX.sl (hE : EX w H col bc cs V s sn sv ms c) (a k : Nat) : (sx V a k).val = slotAt (acctAt s.now.accts a).slots k := congrFun (congrFun (congrArg AW.slot hE.px.va.abs) a) k
theorem EX.og (hE : EX w H col bc cs V s sn sv ms c) (a k : Nat) : (sx V a k).orig = triAt s.start a k := congrFun (congrFun hE.px.va.og a) k
theorem EX.tl (hE : EX w H col bc cs V s sn sv ms c) (a k : Nat) : (absV V).temp a k = triAt s.now.temps a k := by rw [hE.px.va.abs]; rfl
theorem EX.balt (hE : EX w H col bc cs V s sn sv ms c) (a : Nat) : (absV V).bal a < W256 := by
  show (ax V a).bal < W256
  by_cases h : hasA V a
  · obtain ⟨x, h1, h2⟩ := hasA_ix h
    obtain ⟨b, c', cap, vc, hA⟩ := hE.vl.acct h1
    rw [ax_eq hE.ok h1 h2]
    exact hA.ok.bal
  · rw [ax_no h]
    show 0 < W256
    decide
theorem EX.sxlt (hE : EX w H col bc cs V s sn sv ms c) (a k : Nat) : (sx V a k).val < W256 ∧ (sx V a k).orig < W256 := by
  by_cases h : (ai V a, k) ∈ sKs V.slots
  · obtain ⟨x, h1, h2, h3⟩ := sKs_get.1 (idx_get h)
    obtain ⟨b, c', cap, hA⟩ := hE.vl.slot h1
    rw [sx_eq hE.ok h1 h2 h3]
    exact ⟨hA.ok.val, hA.ok.orig⟩
  · rw [sx_no h]
    exact ⟨(by decide : 0 < W256), (by decide : 0 < W256)⟩
end
def dstC (s : YSt) (f : YF) : Nat := (if yT f 0 ∈ s.now.warmA then 0 else 2600) + (if emptyB (acctAt s.now.accts (yT f 0)) = true ∧ (acctAt s.now.accts f.self).bal ≠ 0 then 25000 else 0)
def rcN (l : List Nat) (q : Nat) : Nat :=
  if q = 32 ∨ q = 243 ∨ q = 253 ∨ (160 ≤ q ∧ q ≤ 164) then reachN (argN l 0) (argN l 1)
  else if q = 55 ∨ q = 57 ∨ q = 62 then reachN (argN l 0) (argN l 2)
  else if q = 60 then reachN (argN l 1) (argN l 3)
  else if q = 81 ∨ q = 82 then reachN (argN l 0) 32
  else if q = 83 then reachN (argN l 0) 1
  else if q = 94 then max (reachN (argN l 0) (argN l 2)) (reachN (argN l 1) (argN l 2))
  else if q = 240 ∨ q = 245 then reachN (argN l 1) (argN l 2)
  else if q = 241 ∨ q = 242 then max (reachN (argN l 3) (argN l 4)) (reachN (argN l 5) (argN l 6))
  else if q = 244 ∨ q = 250 then max (reachN (argN l 2) (argN l 3)) (reachN (argN l 4) (argN l 5))
  else 0
def rbN (l : List Nat) (q : Nat) : Bool :=
  if q = 32 ∨ q = 243 ∨ q = 253 ∨ (160 ≤ q ∧ q ≤ 164) then reachB (argN l 0) (argN l 1)
  else if q = 55 ∨ q = 57 ∨ q = 62 then reachB (argN l 0) (argN l 2)
  else if q = 60 then reachB (argN l 1) (argN l 3)
  else if q = 81 ∨ q = 82 then reachB (argN l 0) 32
  else if q = 83 then reachB (argN l 0) 1
  else if q = 94 then reachB (argN l 0) (argN l 2) && reachB (argN l 1) (argN l 2)
  else if q = 240 ∨ q = 245 then reachB (argN l 1) (argN l 2)
  else if q = 241 ∨ q = 242 then reachB (argN l 3) (argN l 4) && reachB (argN l 5) (argN l 6)
  else if q = 244 ∨ q = 250 then reachB (argN l 2) (argN l 3) && reachB (argN l 4) (argN l 5)
  else true
theorem m_access {w : World} {H : Store} {col : Nat → Nat} {bc : Nat} {cs : Array Value} {V : EV} {s : YSt} {sn : List Nat} {sv : List AW} {ms : List (List Nat)} {c : Nat} {low : List YF} {f : YF} (hE : EX w H col bc cs V s sn sv ms c) (hs : s.frames = low ++ [f]) (hp : s.phase = 1) (x : Nat) (hx : x < W256) :
    Ret 367 [.pointer (some ⟨bc, 0, none⟩), wV x] w (fun v w' => v = .int .u64 (accessN s.now.warmA (x % A160) : Nat) ∧ Up w w') := by
  obtain ⟨n9, hn9, hR⟩ := hE.topF hs
  have hB := hE.fbT hs
  have h6 := hE.six hs
  have htop := hE.cTop hs
  have hphs := hE.cPh hp
  have hbp := hB.pc
  have hbs := hB.stk
  have hbg := hB.gas
  have hbc9 := hB.code
  have hnw := hE.vl.new
  have hfz := hE.vl.fz
  have hcC := hE.vl.colC
  have hbc0 := hE.vl.kC.lt
  refine enter (n := 12) Hvaa.func367 rfl rfl (Nat.le_of_ble_eq_true rfl) ?_
  have U := Up.refl w
  refine c_seq (fun K1 hK1 => ?_)
  exact (by
    refine c_region ?_
    refine l_eff (e_boxV (et (gS rfl g0) rfl)) (fun v2 w2 h2 => ?_)
    obtain ⟨b2, rfl, n2⟩ := h2
    have f2 : w.heap.size ≤ b2 := Nat.le_trans U.size n2.fresh
    replace hE := hE.up n2.up
    replace U := U.tr n2.up
    have k2 := n2.blk
    refine l_step y_assignC ?_
    refine l_nil ?_
    refine hK1 _ _ ?_
    refine fg2 0 3 (gS rfl (gS rfl g0)) (gS rfl g0) (fun g => ?_)
    refine c_seq (fun K3 hK3 => ?_)
    refine c_seq (fun K4 hK4 => ?_)
    exact (by
      refine c_draw Up 6 [(0, true), (1, true), (2, true), (3, true), (4, true), (5, false), (6, false)] (by kernel_rfl) (fun w5 hu => ⟨Up.refl _, ?_⟩)
      replace k2 := k2.up hu
      replace hE := hE.up hu
      replace U := U.tr hu
      have SU := Up.refl w5
      refine p_step (by exact rfl) (y_moveV (et (gS rfl g0) rfl)) ?_
      refine p_step (by exact rfl) (y_nil (et g0 rfl)) ?_
      refine p_step (by exact rfl) (y_fld fld_75_0 (et g0 rfl)) ?_
      refine p_step (by exact rfl) (y_load1 one_59 (et g0 rfl) (atS (hE.vl.c1 hE.lx.pS rfl))) ?_
      refine p_step (by exact rfl) (y_loadB agg_65 sz_65 (et (gS rfl (gS rfl (gS rfl (gS rfl g0)))) rfl) rfl (atSB k2)) ?_
      refine p_eff (by exact rfl) (e_callV cal_293 (aC (et g0 rfl) aN) (mach_addrOf _ _ (by first | exact argN_lt hB _ | exact hB.value | assumption | decide | exact Nat.mod_lt _ (by decide)))) (fun v6 w6 h6 => ?_)
      obtain ⟨rfl, u6⟩ := h6
      replace k2 := k2.up u6
      replace hE := hE.up u6
      replace U := U.tr u6
      refine ⟨.inr (SU.tr u6), ?_⟩
      replace SU := SU.tr u6
      refine p_eff (by exact rfl) (e_callV cal_172 (aC (et (gS rfl (gS rfl g0)) rfl) (aC (et g0 rfl) aN)) (v_isWarmAcct hE.vl hE.ok _ (by first | exact Nat.mod_lt _ A160_pos | exact hB.self | exact hB.caller | assumption))) (fun v7 w7 h7 => ?_)
      obtain ⟨rfl, u7⟩ := h7
      replace k2 := k2.up u7
      replace hE := hE.up u7
      replace U := U.tr u7
      refine ⟨.inl rfl, ?_⟩
      refine p_nil ?_
      refine hK4 _ _ ?_
      refine fg1 11 g0 (fun g => ?_)
      refine c_cond (et g0 rfl) (fun cB1 => ?_) (fun cB1 => ?_)
      · skip
        
        rw [hE.wa] at cB1
        have h9 := of_decide_eq_true cB1
        refine c_seq (fun K9 hK9 => ?_)
        exact (by
          refine c_region ?_
          refine l_step y_assignC ?_
          refine l_nil ?_
          refine hK9 _ _ ?_
          refine fg1 4 g0 (fun g => ?_)
          refine c_ret ?_
          repeat with_reducible refine then_ret ?_
          refine ret1 rfl (res_tmp (et g0 rfl)) ?_
          exact ⟨by unfold accessN; rw [if_pos h9]; rfl, U⟩)
      · skip
        
        rw [hE.wa] at cB1
        have h9 := of_decide_eq_false cB1
        refine c_skip ?_
        refine hK3 _ _ ?_
        refine fg0 (fun g => ?_)
        refine c_seq (fun K10 hK10 => ?_)
        exact (by
          refine c_region ?_
          refine l_step y_assignC ?_
          refine l_nil ?_
          refine hK10 _ _ ?_
          refine c_ret ?_
          repeat with_reducible refine then_ret ?_
          refine ret1 rfl (res_tmp (et g0 rfl)) ?_
          exact ⟨by unfold accessN; rw [if_neg h9]; rfl, U⟩)))
theorem m_reaches {w : World} {H : Store} {col : Nat → Nat} {bc : Nat} {cs : Array Value} {V : EV} {s : YSt} {sn : List Nat} {sv : List AW} {ms : List (List Nat)} {c : Nat} {low : List YF} {f : YF} (hE : EX w H col bc cs V s sn sv ms c) (hs : s.frames = low ++ [f]) (hp : s.phase = 1) {pf : Nat} (hpf : pf = 1803 + 65 * low.length) (q : Nat) (hq : q < 256) :
    Ret 267 [.pointer (some ⟨bc, 0, none⟩), .pointer (some ⟨bc, pf, none⟩), .int .u8 (q : Nat)] w (fun v w' => v = .tuple #[.int .u64 (rcN f.stack q : Nat), .bool (rbN f.stack q)] ∧ Up w w') := by
  obtain ⟨n9, hn9, hR⟩ := hE.topF hs
  have hB := hE.fbT hs
  have h6 := hE.six hs
  have htop := hE.cTop hs
  have hphs := hE.cPh hp
  have hbp := hB.pc
  have hbs := hB.stk
  have hbg := hB.gas
  have hbc9 := hB.code
  have hnw := hE.vl.new
  have hfz := hE.vl.fz
  have hcC := hE.vl.colC
  have hbc0 := hE.vl.kC.lt
  refine enter (n := 135) Hvaa.func267 rfl rfl (Nat.le_of_ble_eq_true rfl) ?_
  have U := Up.refl w
  refine c_seq (fun K1 hK1 => ?_)
  exact (by
    refine c_region ?_
    refine l_step y_assignC ?_
    refine l_step y_assignC ?_
    refine l_nil ?_
    refine hK1 _ _ ?_
    refine fg3 2 1 0 (gS rfl (gS rfl (gS rfl (gS rfl g0)))) (gS rfl (gS rfl (gS rfl g0))) (gS rfl (gS rfl g0)) (fun g => ?_)
    refine c_seq (fun K2 hK2 => ?_)
    refine c_seq (fun K3 hK3 => ?_)
    exact (by
      refine c_region ?_
      refine l_step (y_moveV (et (gS rfl (gS rfl g0)) rfl)) ?_
      refine l_nil ?_
      refine hK3 _ _ ?_
      refine fg3 1 0 8 (gS rfl (gS rfl g0)) (gS rfl g0) g0 (fun g => ?_)
      refine c_block (fun Q4 hQ4 => ?_)
      refine c_seq (fun K5 hK5 => ?_)
      refine c_seq (fun K6 hK6 => ?_)
      exact (by
        refine c_region ?_
        refine l_step (y_eql (et g0 rfl) rfl) ?_
        refine l_step (y_assignV (et g0 rfl)) ?_
        refine l_nil ?_
        refine hK6 _ _ ?_
        refine fg4 1 0 8 9 (gS rfl (gS rfl (gS rfl (gS rfl g0)))) (gS rfl (gS rfl (gS rfl g0))) (gS rfl (gS rfl g0)) g0 (fun g => ?_)
        refine c_cond (et g0 rfl) (fun cB1 => ?_) (fun cB1 => ?_)
        · skip
          
          have hq1 : q = 32 := by have := of_decide_eq_true cB1; omega
          refine c_skip ?_
          refine hK5 _ _ ?_
          refine c_true (et g0 rfl) (by assumption) ?_
          refine c_seq (fun K9 hK9 => ?_)
          exact (by
            refine c_region ?_
            refine l_step (y_moveV (et (gS rfl (gS rfl g0)) rfl)) ?_
            refine l_step (y_moveV (et (gS rfl (gS rfl (gS rfl (gS rfl g0)))) rfl)) ?_
            refine l_eff (e_callV cal_264 (aC (et (gS rfl g0) rfl) (aC (et g0 rfl) (aC (v := .int .i64 ((0 : Nat) : Int)) rfl aN))) (m_arg hE hs hp (by first | exact hpf | rfl) _ (by decide))) (fun v10 w10 h10 => ?_)
            obtain ⟨rfl, u10⟩ := h10
            replace hE := hE.up u10
            replace U := U.tr u10
            refine l_step (y_moveV (et (gS rfl (gS rfl (gS rfl (gS rfl (gS rfl g0))))) rfl)) ?_
            refine l_step (y_moveV (et (gS rfl (gS rfl (gS rfl (gS rfl (gS rfl (gS rfl (gS rfl g0))))))) rfl)) ?_
            refine l_eff (e_callV cal_264 (aC (et (gS rfl g0) rfl) (aC (et g0 rfl) (aC (v := .int .i64 ((1 : Nat) : Int)) rfl aN))) (m_arg hE hs hp (by first | exact hpf | rfl) _ (by decide))) (fun v11 w11 h11 => ?_)
            obtain ⟨rfl, u11⟩ := h11
            replace hE := hE.up u11
            replace U := U.tr u11
            refine l_eff (e_callV cal_361 (aC (et (gS rfl (gS rfl (gS rfl g0))) rfl) (aC (et g0 rfl) aN)) (mach_reach _ _ _ (by first | exact argN_lt hB _ | exact hB.value | assumption | decide | exact Nat.mod_lt _ (by decide)) (by first | exact argN_lt hB _ | exact hB.value | assumption | decide | exact Nat.mod_lt _ (by decide)))) (fun v12 w12 h12 => ?_)
            obtain ⟨rfl, u12⟩ := h12
            replace hE := hE.up u12
            replace U := U.tr u12
            refine l_step (y_ext (et g0 rfl) rfl) ?_
            refine l_step (y_ext (et (gS rfl g0) rfl) rfl) ?_
            refine l_step (y_assignV (et (gS rfl g0) rfl)) ?_
            refine l_step (y_assignV (et (gS rfl g0) rfl)) ?_
            refine l_nil ?_
            refine hK9 _ _ ?_
            refine fg2 6 7 (gS rfl g0) g0 (fun g => ?_)
            refine c_ret ?_
            refine hQ4 _ _ _ (in_ret ?_)
            repeat with_reducible refine then_ret ?_
            refine ret2 rfl (res_tmp (et (gS rfl g0) rfl)) (res_tmp (et g0 rfl)) ?_
            refine ⟨?_, U⟩
            have e1 := show rcN f.stack q = _ by unfold rcN; rw [if_pos (by omega)]
            have e2 := show rbN f.stack q = _ by unfold rbN; rw [if_pos (by omega)]
            rw [e1, e2]
            rfl)
        · skip
          
          have hq1 : q ≠ 32 := by have := of_decide_eq_false cB1; omega
          refine c_seq (fun K13 hK13 => ?_)
          exact (by
            refine c_region ?_
            refine l_step (y_eql (et (gS rfl g0) rfl) rfl) ?_
            refine l_step (y_assignV (et g0 rfl)) ?_
            refine l_nil ?_
            refine hK13 _ _ ?_
            refine fg4 1 0 8 9 (gS rfl (gS rfl (gS rfl (gS rfl (gS rfl g0))))) (gS rfl (gS rfl (gS rfl (gS rfl g0)))) (gS rfl (gS rfl (gS rfl g0))) g0 (fun g => ?_)
            refine c_cond (et g0 rfl) (fun cB2 => ?_) (fun cB2 => ?_)
            · skip
              
              have hq2 : q = 243 := by have := of_decide_eq_true cB2; omega
              refine c_skip ?_
              refine hK5 _ _ ?_
              refine c_true (et g0 rfl) (by assumption) ?_
              refine c_seq (fun K16 hK16 => ?_)
              exact (by
                refine c_region ?_
                refine l_step (y_moveV (et (gS rfl (gS rfl g0)) rfl)) ?_
                refine l_step (y_moveV (et (gS rfl (gS rfl (gS rfl (gS rfl g0)))) rfl)) ?_
                refine l_eff (e_callV cal_264 (aC (et (gS rfl g0) rfl) (aC (et g0 rfl) (aC (v := .int .i64 ((0 : Nat) : Int)) rfl aN))) (m_arg hE hs hp (by first | exact hpf | rfl) _ (by decide))) (fun v17 w17 h17 => ?_)
                obtain ⟨rfl, u17⟩ := h17
                replace hE := hE.up u17
                replace U := U.tr u17
                refine l_step (y_moveV (et (gS rfl (gS rfl (gS rfl (gS rfl (gS rfl g0))))) rfl)) ?_
                refine l_step (y_moveV (et (gS rfl (gS rfl (gS rfl (gS rfl (gS rfl (gS rfl (gS rfl g0))))))) rfl)) ?_
                refine l_eff (e_callV cal_264 (aC (et (gS rfl g0) rfl) (aC (et g0 rfl) (aC (v := .int .i64 ((1 : Nat) : Int)) rfl aN))) (m_arg hE hs hp (by first | exact hpf | rfl) _ (by decide))) (fun v18 w18 h18 => ?_)
                obtain ⟨rfl, u18⟩ := h18
                replace hE := hE.up u18
                replace U := U.tr u18
                refine l_eff (e_callV cal_361 (aC (et (gS rfl (gS rfl (gS rfl g0))) rfl) (aC (et g0 rfl) aN)) (mach_reach _ _ _ (by first | exact argN_lt hB _ | exact hB.value | assumption | decide | exact Nat.mod_lt _ (by decide)) (by first | exact argN_lt hB _ | exact hB.value | assumption | decide | exact Nat.mod_lt _ (by decide)))) (fun v19 w19 h19 => ?_)
                obtain ⟨rfl, u19⟩ := h19
                replace hE := hE.up u19
                replace U := U.tr u19
                refine l_step (y_ext (et g0 rfl) rfl) ?_
                refine l_step (y_ext (et (gS rfl g0) rfl) rfl) ?_
                refine l_step (y_assignV (et (gS rfl g0) rfl)) ?_
                refine l_step (y_assignV (et (gS rfl g0) rfl)) ?_
                refine l_nil ?_
                refine hK16 _ _ ?_
                refine fg2 6 7 (gS rfl g0) g0 (fun g => ?_)
                refine c_ret ?_
                refine hQ4 _ _ _ (in_ret ?_)
                repeat with_reducible refine then_ret ?_
                refine ret2 rfl (res_tmp (et (gS rfl g0) rfl)) (res_tmp (et g0 rfl)) ?_
                refine ⟨?_, U⟩
                have e1 := show rcN f.stack q = _ by unfold rcN; rw [if_pos (by omega)]
                have e2 := show rbN f.stack q = _ by unfold rbN; rw [if_pos (by omega)]
                rw [e1, e2]
                rfl)
            · skip
              
              have hq2 : q ≠ 243 := by have := of_decide_eq_false cB2; omega
              refine c_seq (fun K20 hK20 => ?_)
              exact (by
                refine c_region ?_
                refine l_step (y_eql (et (gS rfl g0) rfl) rfl) ?_
                refine l_step (y_assignV (et g0 rfl)) ?_
                refine l_nil ?_
                refine hK20 _ _ ?_
                refine fg4 1 0 8 9 (gS rfl (gS rfl (gS rfl (gS rfl (gS rfl g0))))) (gS rfl (gS rfl (gS rfl (gS rfl g0)))) (gS rfl (gS rfl (gS rfl g0))) g0 (fun g => ?_)
                refine c_cond (et g0 rfl) (fun cB3 => ?_) (fun cB3 => ?_)
                · skip
                  
                  have hq3 : q = 253 := by have := of_decide_eq_true cB3; omega
                  refine c_skip ?_
                  refine hK5 _ _ ?_
                  refine c_true (et g0 rfl) (by assumption) ?_
                  refine c_seq (fun K23 hK23 => ?_)
                  exact (by
                    refine c_region ?_
                    refine l_step (y_moveV (et (gS rfl (gS rfl g0)) rfl)) ?_
                    refine l_step (y_moveV (et (gS rfl (gS rfl (gS rfl (gS rfl g0)))) rfl)) ?_
                    refine l_eff (e_callV cal_264 (aC (et (gS rfl g0) rfl) (aC (et g0 rfl) (aC (v := .int .i64 ((0 : Nat) : Int)) rfl aN))) (m_arg hE hs hp (by first | exact hpf | rfl) _ (by decide))) (fun v24 w24 h24 => ?_)
                    obtain ⟨rfl, u24⟩ := h24
                    replace hE := hE.up u24
                    replace U := U.tr u24
                    refine l_step (y_moveV (et (gS rfl (gS rfl (gS rfl (gS rfl (gS rfl g0))))) rfl)) ?_
                    refine l_step (y_moveV (et (gS rfl (gS rfl (gS rfl (gS rfl (gS rfl (gS rfl (gS rfl g0))))))) rfl)) ?_
                    refine l_eff (e_callV cal_264 (aC (et (gS rfl g0) rfl) (aC (et g0 rfl) (aC (v := .int .i64 ((1 : Nat) : Int)) rfl aN))) (m_arg hE hs hp (by first | exact hpf | rfl) _ (by decide))) (fun v25 w25 h25 => ?_)
                    obtain ⟨rfl, u25⟩ := h25
                    replace hE := hE.up u25
                    replace U := U.tr u25
                    refine l_eff (e_callV cal_361 (aC (et (gS rfl (gS rfl (gS rfl g0))) rfl) (aC (et g0 rfl) aN)) (mach_reach _ _ _ (by first | exact argN_lt hB _ | exact hB.value | assumption | decide | exact Nat.mod_lt _ (by decide)) (by first | exact argN_lt hB _ | exact hB.value | assumption | decide | exact Nat.mod_lt _ (by decide)))) (fun v26 w26 h26 => ?_)
                    obtain ⟨rfl, u26⟩ := h26
                    replace hE := hE.up u26
                    replace U := U.tr u26
                    refine l_step (y_ext (et g0 rfl) rfl) ?_
                    refine l_step (y_ext (et (gS rfl g0) rfl) rfl) ?_
                    refine l_step (y_assignV (et (gS rfl g0) rfl)) ?_
                    refine l_step (y_assignV (et (gS rfl g0) rfl)) ?_
                    refine l_nil ?_
                    refine hK23 _ _ ?_
                    refine fg2 6 7 (gS rfl g0) g0 (fun g => ?_)
                    refine c_ret ?_
                    refine hQ4 _ _ _ (in_ret ?_)
                    repeat with_reducible refine then_ret ?_
                    refine ret2 rfl (res_tmp (et (gS rfl g0) rfl)) (res_tmp (et g0 rfl)) ?_
                    refine ⟨?_, U⟩
                    have e1 := show rcN f.stack q = _ by unfold rcN; rw [if_pos (by omega)]
                    have e2 := show rbN f.stack q = _ by unfold rbN; rw [if_pos (by omega)]
                    rw [e1, e2]
                    rfl)
                · skip
                  
                  have hq3 : q ≠ 253 := by have := of_decide_eq_false cB3; omega
                  refine c_seq (fun K27 hK27 => ?_)
                  exact (by
                    refine c_region ?_
                    refine l_step (y_eql (et (gS rfl g0) rfl) rfl) ?_
                    refine l_step (y_assignV (et g0 rfl)) ?_
                    refine l_nil ?_
                    refine hK27 _ _ ?_
                    refine fg4 1 0 8 9 (gS rfl (gS rfl (gS rfl (gS rfl (gS rfl g0))))) (gS rfl (gS rfl (gS rfl (gS rfl g0)))) (gS rfl (gS rfl (gS rfl g0))) g0 (fun g => ?_)
                    refine c_cond (et g0 rfl) (fun cB4 => ?_) (fun cB4 => ?_)
                    · skip
                      
                      have hq4 : q = 160 := by have := of_decide_eq_true cB4; omega
                      refine c_skip ?_
                      refine hK5 _ _ ?_
                      refine c_true (et g0 rfl) (by assumption) ?_
                      refine c_seq (fun K30 hK30 => ?_)
                      exact (by
                        refine c_region ?_
                        refine l_step (y_moveV (et (gS rfl (gS rfl g0)) rfl)) ?_
                        refine l_step (y_moveV (et (gS rfl (gS rfl (gS rfl (gS rfl g0)))) rfl)) ?_
                        refine l_eff (e_callV cal_264 (aC (et (gS rfl g0) rfl) (aC (et g0 rfl) (aC (v := .int .i64 ((0 : Nat) : Int)) rfl aN))) (m_arg hE hs hp (by first | exact hpf | rfl) _ (by decide))) (fun v31 w31 h31 => ?_)
                        obtain ⟨rfl, u31⟩ := h31
                        replace hE := hE.up u31
                        replace U := U.tr u31
                        refine l_step (y_moveV (et (gS rfl (gS rfl (gS rfl (gS rfl (gS rfl g0))))) rfl)) ?_
                        refine l_step (y_moveV (et (gS rfl (gS rfl (gS rfl (gS rfl (gS rfl (gS rfl (gS rfl g0))))))) rfl)) ?_
                        refine l_eff (e_callV cal_264 (aC (et (gS rfl g0) rfl) (aC (et g0 rfl) (aC (v := .int .i64 ((1 : Nat) : Int)) rfl aN))) (m_arg hE hs hp (by first | exact hpf | rfl) _ (by decide))) (fun v32 w32 h32 => ?_)
                        obtain ⟨rfl, u32⟩ := h32
                        replace hE := hE.up u32
                        replace U := U.tr u32
                        refine l_eff (e_callV cal_361 (aC (et (gS rfl (gS rfl (gS rfl g0))) rfl) (aC (et g0 rfl) aN)) (mach_reach _ _ _ (by first | exact argN_lt hB _ | exact hB.value | assumption | decide | exact Nat.mod_lt _ (by decide)) (by first | exact argN_lt hB _ | exact hB.value | assumption | decide | exact Nat.mod_lt _ (by decide)))) (fun v33 w33 h33 => ?_)
                        obtain ⟨rfl, u33⟩ := h33
                        replace hE := hE.up u33
                        replace U := U.tr u33
                        refine l_step (y_ext (et g0 rfl) rfl) ?_
                        refine l_step (y_ext (et (gS rfl g0) rfl) rfl) ?_
                        refine l_step (y_assignV (et (gS rfl g0) rfl)) ?_
                        refine l_step (y_assignV (et (gS rfl g0) rfl)) ?_
                        refine l_nil ?_
                        refine hK30 _ _ ?_
                        refine fg2 6 7 (gS rfl g0) g0 (fun g => ?_)
                        refine c_ret ?_
                        refine hQ4 _ _ _ (in_ret ?_)
                        repeat with_reducible refine then_ret ?_
                        refine ret2 rfl (res_tmp (et (gS rfl g0) rfl)) (res_tmp (et g0 rfl)) ?_
                        refine ⟨?_, U⟩
                        have e1 := show rcN f.stack q = _ by unfold rcN; rw [if_pos (by omega)]
                        have e2 := show rbN f.stack q = _ by unfold rbN; rw [if_pos (by omega)]
                        rw [e1, e2]
                        rfl)
                    · skip
                      
                      have hq4 : q ≠ 160 := by have := of_decide_eq_false cB4; omega
                      refine c_seq (fun K34 hK34 => ?_)
                      exact (by
                        refine c_region ?_
                        refine l_step (y_eql (et (gS rfl g0) rfl) rfl) ?_
                        refine l_step (y_assignV (et g0 rfl)) ?_
                        refine l_nil ?_
                        refine hK34 _ _ ?_
                        refine fg4 1 0 8 9 (gS rfl (gS rfl (gS rfl (gS rfl (gS rfl g0))))) (gS rfl (gS rfl (gS rfl (gS rfl g0)))) (gS rfl (gS rfl (gS rfl g0))) g0 (fun g => ?_)
                        refine c_cond (et g0 rfl) (fun cB5 => ?_) (fun cB5 => ?_)
                        · skip
                          
                          have hq5 : q = 161 := by have := of_decide_eq_true cB5; omega
                          refine c_skip ?_
                          refine hK5 _ _ ?_
                          refine c_true (et g0 rfl) (by assumption) ?_
                          refine c_seq (fun K37 hK37 => ?_)
                          exact (by
                            refine c_region ?_
                            refine l_step (y_moveV (et (gS rfl (gS rfl g0)) rfl)) ?_
                            refine l_step (y_moveV (et (gS rfl (gS rfl (gS rfl (gS rfl g0)))) rfl)) ?_
                            refine l_eff (e_callV cal_264 (aC (et (gS rfl g0) rfl) (aC (et g0 rfl) (aC (v := .int .i64 ((0 : Nat) : Int)) rfl aN))) (m_arg hE hs hp (by first | exact hpf | rfl) _ (by decide))) (fun v38 w38 h38 => ?_)
                            obtain ⟨rfl, u38⟩ := h38
                            replace hE := hE.up u38
                            replace U := U.tr u38
                            refine l_step (y_moveV (et (gS rfl (gS rfl (gS rfl (gS rfl (gS rfl g0))))) rfl)) ?_
                            refine l_step (y_moveV (et (gS rfl (gS rfl (gS rfl (gS rfl (gS rfl (gS rfl (gS rfl g0))))))) rfl)) ?_
                            refine l_eff (e_callV cal_264 (aC (et (gS rfl g0) rfl) (aC (et g0 rfl) (aC (v := .int .i64 ((1 : Nat) : Int)) rfl aN))) (m_arg hE hs hp (by first | exact hpf | rfl) _ (by decide))) (fun v39 w39 h39 => ?_)
                            obtain ⟨rfl, u39⟩ := h39
                            replace hE := hE.up u39
                            replace U := U.tr u39
                            refine l_eff (e_callV cal_361 (aC (et (gS rfl (gS rfl (gS rfl g0))) rfl) (aC (et g0 rfl) aN)) (mach_reach _ _ _ (by first | exact argN_lt hB _ | exact hB.value | assumption | decide | exact Nat.mod_lt _ (by decide)) (by first | exact argN_lt hB _ | exact hB.value | assumption | decide | exact Nat.mod_lt _ (by decide)))) (fun v40 w40 h40 => ?_)
                            obtain ⟨rfl, u40⟩ := h40
                            replace hE := hE.up u40
                            replace U := U.tr u40
                            refine l_step (y_ext (et g0 rfl) rfl) ?_
                            refine l_step (y_ext (et (gS rfl g0) rfl) rfl) ?_
                            refine l_step (y_assignV (et (gS rfl g0) rfl)) ?_
                            refine l_step (y_assignV (et (gS rfl g0) rfl)) ?_
                            refine l_nil ?_
                            refine hK37 _ _ ?_
                            refine fg2 6 7 (gS rfl g0) g0 (fun g => ?_)
                            refine c_ret ?_
                            refine hQ4 _ _ _ (in_ret ?_)
                            repeat with_reducible refine then_ret ?_
                            refine ret2 rfl (res_tmp (et (gS rfl g0) rfl)) (res_tmp (et g0 rfl)) ?_
                            refine ⟨?_, U⟩
                            have e1 := show rcN f.stack q = _ by unfold rcN; rw [if_pos (by omega)]
                            have e2 := show rbN f.stack q = _ by unfold rbN; rw [if_pos (by omega)]
                            rw [e1, e2]
                            rfl)
                        · skip
                          
                          have hq5 : q ≠ 161 := by have := of_decide_eq_false cB5; omega
                          refine c_seq (fun K41 hK41 => ?_)
                          exact (by
                            refine c_region ?_
                            refine l_step (y_eql (et (gS rfl g0) rfl) rfl) ?_
                            refine l_step (y_assignV (et g0 rfl)) ?_
                            refine l_nil ?_
                            refine hK41 _ _ ?_
                            refine fg4 1 0 8 9 (gS rfl (gS rfl (gS rfl (gS rfl (gS rfl g0))))) (gS rfl (gS rfl (gS rfl (gS rfl g0)))) (gS rfl (gS rfl (gS rfl g0))) g0 (fun g => ?_)
                            refine c_cond (et g0 rfl) (fun cB6 => ?_) (fun cB6 => ?_)
                            · skip
                              
                              have hq6 : q = 162 := by have := of_decide_eq_true cB6; omega
                              refine c_skip ?_
                              refine hK5 _ _ ?_
                              refine c_true (et g0 rfl) (by assumption) ?_
                              refine c_seq (fun K44 hK44 => ?_)
                              exact (by
                                refine c_region ?_
                                refine l_step (y_moveV (et (gS rfl (gS rfl g0)) rfl)) ?_
                                refine l_step (y_moveV (et (gS rfl (gS rfl (gS rfl (gS rfl g0)))) rfl)) ?_
                                refine l_eff (e_callV cal_264 (aC (et (gS rfl g0) rfl) (aC (et g0 rfl) (aC (v := .int .i64 ((0 : Nat) : Int)) rfl aN))) (m_arg hE hs hp (by first | exact hpf | rfl) _ (by decide))) (fun v45 w45 h45 => ?_)
                                obtain ⟨rfl, u45⟩ := h45
                                replace hE := hE.up u45
                                replace U := U.tr u45
                                refine l_step (y_moveV (et (gS rfl (gS rfl (gS rfl (gS rfl (gS rfl g0))))) rfl)) ?_
                                refine l_step (y_moveV (et (gS rfl (gS rfl (gS rfl (gS rfl (gS rfl (gS rfl (gS rfl g0))))))) rfl)) ?_
                                refine l_eff (e_callV cal_264 (aC (et (gS rfl g0) rfl) (aC (et g0 rfl) (aC (v := .int .i64 ((1 : Nat) : Int)) rfl aN))) (m_arg hE hs hp (by first | exact hpf | rfl) _ (by decide))) (fun v46 w46 h46 => ?_)
                                obtain ⟨rfl, u46⟩ := h46
                                replace hE := hE.up u46
                                replace U := U.tr u46
                                refine l_eff (e_callV cal_361 (aC (et (gS rfl (gS rfl (gS rfl g0))) rfl) (aC (et g0 rfl) aN)) (mach_reach _ _ _ (by first | exact argN_lt hB _ | exact hB.value | assumption | decide | exact Nat.mod_lt _ (by decide)) (by first | exact argN_lt hB _ | exact hB.value | assumption | decide | exact Nat.mod_lt _ (by decide)))) (fun v47 w47 h47 => ?_)
                                obtain ⟨rfl, u47⟩ := h47
                                replace hE := hE.up u47
                                replace U := U.tr u47
                                refine l_step (y_ext (et g0 rfl) rfl) ?_
                                refine l_step (y_ext (et (gS rfl g0) rfl) rfl) ?_
                                refine l_step (y_assignV (et (gS rfl g0) rfl)) ?_
                                refine l_step (y_assignV (et (gS rfl g0) rfl)) ?_
                                refine l_nil ?_
                                refine hK44 _ _ ?_
                                refine fg2 6 7 (gS rfl g0) g0 (fun g => ?_)
                                refine c_ret ?_
                                refine hQ4 _ _ _ (in_ret ?_)
                                repeat with_reducible refine then_ret ?_
                                refine ret2 rfl (res_tmp (et (gS rfl g0) rfl)) (res_tmp (et g0 rfl)) ?_
                                refine ⟨?_, U⟩
                                have e1 := show rcN f.stack q = _ by unfold rcN; rw [if_pos (by omega)]
                                have e2 := show rbN f.stack q = _ by unfold rbN; rw [if_pos (by omega)]
                                rw [e1, e2]
                                rfl)
                            · skip
                              
                              have hq6 : q ≠ 162 := by have := of_decide_eq_false cB6; omega
                              refine c_seq (fun K48 hK48 => ?_)
                              exact (by
                                refine c_region ?_
                                refine l_step (y_eql (et (gS rfl g0) rfl) rfl) ?_
                                refine l_step (y_assignV (et g0 rfl)) ?_
                                refine l_nil ?_
                                refine hK48 _ _ ?_
                                refine fg4 1 0 8 9 (gS rfl (gS rfl (gS rfl (gS rfl (gS rfl g0))))) (gS rfl (gS rfl (gS rfl (gS rfl g0)))) (gS rfl (gS rfl (gS rfl g0))) g0 (fun g => ?_)
                                refine c_cond (et g0 rfl) (fun cB7 => ?_) (fun cB7 => ?_)
                                · skip
                                  
                                  have hq7 : q = 163 := by have := of_decide_eq_true cB7; omega
                                  refine c_skip ?_
                                  refine hK5 _ _ ?_
                                  refine c_true (et g0 rfl) (by assumption) ?_
                                  refine c_seq (fun K51 hK51 => ?_)
                                  exact (by
                                    refine c_region ?_
                                    refine l_step (y_moveV (et (gS rfl (gS rfl g0)) rfl)) ?_
                                    refine l_step (y_moveV (et (gS rfl (gS rfl (gS rfl (gS rfl g0)))) rfl)) ?_
                                    refine l_eff (e_callV cal_264 (aC (et (gS rfl g0) rfl) (aC (et g0 rfl) (aC (v := .int .i64 ((0 : Nat) : Int)) rfl aN))) (m_arg hE hs hp (by first | exact hpf | rfl) _ (by decide))) (fun v52 w52 h52 => ?_)
                                    obtain ⟨rfl, u52⟩ := h52
                                    replace hE := hE.up u52
                                    replace U := U.tr u52
                                    refine l_step (y_moveV (et (gS rfl (gS rfl (gS rfl (gS rfl (gS rfl g0))))) rfl)) ?_
                                    refine l_step (y_moveV (et (gS rfl (gS rfl (gS rfl (gS rfl (gS rfl (gS rfl (gS rfl g0))))))) rfl)) ?_
                                    refine l_eff (e_callV cal_264 (aC (et (gS rfl g0) rfl) (aC (et g0 rfl) (aC (v := .int .i64 ((1 : Nat) : Int)) rfl aN))) (m_arg hE hs hp (by first | exact hpf | rfl) _ (by decide))) (fun v53 w53 h53 => ?_)
                                    obtain ⟨rfl, u53⟩ := h53
                                    replace hE := hE.up u53
                                    replace U := U.tr u53
                                    refine l_eff (e_callV cal_361 (aC (et (gS rfl (gS rfl (gS rfl g0))) rfl) (aC (et g0 rfl) aN)) (mach_reach _ _ _ (by first | exact argN_lt hB _ | exact hB.value | assumption | decide | exact Nat.mod_lt _ (by decide)) (by first | exact argN_lt hB _ | exact hB.value | assumption | decide | exact Nat.mod_lt _ (by decide)))) (fun v54 w54 h54 => ?_)
                                    obtain ⟨rfl, u54⟩ := h54
                                    replace hE := hE.up u54
                                    replace U := U.tr u54
                                    refine l_step (y_ext (et g0 rfl) rfl) ?_
                                    refine l_step (y_ext (et (gS rfl g0) rfl) rfl) ?_
                                    refine l_step (y_assignV (et (gS rfl g0) rfl)) ?_
                                    refine l_step (y_assignV (et (gS rfl g0) rfl)) ?_
                                    refine l_nil ?_
                                    refine hK51 _ _ ?_
                                    refine fg2 6 7 (gS rfl g0) g0 (fun g => ?_)
                                    refine c_ret ?_
                                    refine hQ4 _ _ _ (in_ret ?_)
                                    repeat with_reducible refine then_ret ?_
                                    refine ret2 rfl (res_tmp (et (gS rfl g0) rfl)) (res_tmp (et g0 rfl)) ?_
                                    refine ⟨?_, U⟩
                                    have e1 := show rcN f.stack q = _ by unfold rcN; rw [if_pos (by omega)]
                                    have e2 := show rbN f.stack q = _ by unfold rbN; rw [if_pos (by omega)]
                                    rw [e1, e2]
                                    rfl)
                                · skip
                                  
                                  have hq7 : q ≠ 163 := by have := of_decide_eq_false cB7; omega
                                  refine c_region ?_
                                  refine l_step (y_eql (et (gS rfl g0) rfl) rfl) ?_
                                  refine l_step (y_assignV (et g0 rfl)) ?_
                                  refine l_nil ?_
                                  refine hK5 _ _ ?_
                                  refine fg4 1 0 8 9 (gS rfl (gS rfl (gS rfl (gS rfl (gS rfl g0))))) (gS rfl (gS rfl (gS rfl (gS rfl g0)))) (gS rfl (gS rfl (gS rfl g0))) g0 (fun g => ?_)
                                  refine c_cond (et g0 rfl) (fun cB8 => ?_) (fun cB8 => ?_)
                                  · skip
                                    
                                    have hq8 : q = 164 := by have := of_decide_eq_true cB8; omega
                                    refine c_seq (fun K56 hK56 => ?_)
                                    exact (by
                                      refine c_region ?_
                                      refine l_step (y_moveV (et (gS rfl (gS rfl g0)) rfl)) ?_
                                      refine l_step (y_moveV (et (gS rfl (gS rfl (gS rfl (gS rfl g0)))) rfl)) ?_
                                      refine l_eff (e_callV cal_264 (aC (et (gS rfl g0) rfl) (aC (et g0 rfl) (aC (v := .int .i64 ((0 : Nat) : Int)) rfl aN))) (m_arg hE hs hp (by first | exact hpf | rfl) _ (by decide))) (fun v57 w57 h57 => ?_)
                                      obtain ⟨rfl, u57⟩ := h57
                                      replace hE := hE.up u57
                                      replace U := U.tr u57
                                      refine l_step (y_moveV (et (gS rfl (gS rfl (gS rfl (gS rfl (gS rfl g0))))) rfl)) ?_
                                      refine l_step (y_moveV (et (gS rfl (gS rfl (gS rfl (gS rfl (gS rfl (gS rfl (gS rfl g0))))))) rfl)) ?_
                                      refine l_eff (e_callV cal_264 (aC (et (gS rfl g0) rfl) (aC (et g0 rfl) (aC (v := .int .i64 ((1 : Nat) : Int)) rfl aN))) (m_arg hE hs hp (by first | exact hpf | rfl) _ (by decide))) (fun v58 w58 h58 => ?_)
                                      obtain ⟨rfl, u58⟩ := h58
                                      replace hE := hE.up u58
                                      replace U := U.tr u58
                                      refine l_eff (e_callV cal_361 (aC (et (gS rfl (gS rfl (gS rfl g0))) rfl) (aC (et g0 rfl) aN)) (mach_reach _ _ _ (by first | exact argN_lt hB _ | exact hB.value | assumption | decide | exact Nat.mod_lt _ (by decide)) (by first | exact argN_lt hB _ | exact hB.value | assumption | decide | exact Nat.mod_lt _ (by decide)))) (fun v59 w59 h59 => ?_)
                                      obtain ⟨rfl, u59⟩ := h59
                                      replace hE := hE.up u59
                                      replace U := U.tr u59
                                      refine l_step (y_ext (et g0 rfl) rfl) ?_
                                      refine l_step (y_ext (et (gS rfl g0) rfl) rfl) ?_
                                      refine l_step (y_assignV (et (gS rfl g0) rfl)) ?_
                                      refine l_step (y_assignV (et (gS rfl g0) rfl)) ?_
                                      refine l_nil ?_
                                      refine hK56 _ _ ?_
                                      refine fg2 6 7 (gS rfl g0) g0 (fun g => ?_)
                                      refine c_ret ?_
                                      refine hQ4 _ _ _ (in_ret ?_)
                                      repeat with_reducible refine then_ret ?_
                                      refine ret2 rfl (res_tmp (et (gS rfl g0) rfl)) (res_tmp (et g0 rfl)) ?_
                                      refine ⟨?_, U⟩
                                      have e1 := show rcN f.stack q = _ by unfold rcN; rw [if_pos (by omega)]
                                      have e2 := show rbN f.stack q = _ by unfold rbN; rw [if_pos (by omega)]
                                      rw [e1, e2]
                                      rfl)
                                  · skip
                                    
                                    have hq8 : q ≠ 164 := by have := of_decide_eq_false cB8; omega
                                    refine c_seq (fun K60 hK60 => ?_)
                                    refine c_seq (fun K61 hK61 => ?_)
                                    exact (by
                                      refine c_region ?_
                                      refine l_step (y_eql (et (gS rfl g0) rfl) rfl) ?_
                                      refine l_step (y_assignV (et g0 rfl)) ?_
                                      refine l_nil ?_
                                      refine hK61 _ _ ?_
                                      refine fg4 1 0 8 27 (gS rfl (gS rfl (gS rfl (gS rfl (gS rfl g0))))) (gS rfl (gS rfl (gS rfl (gS rfl g0)))) (gS rfl (gS rfl (gS rfl g0))) g0 (fun g => ?_)
                                      refine c_cond (et g0 rfl) (fun cB9 => ?_) (fun cB9 => ?_)
                                      · skip
                                        
                                        have hq9 : q = 55 := by have := of_decide_eq_true cB9; omega
                                        refine c_skip ?_
                                        refine hK60 _ _ ?_
                                        refine c_true (et g0 rfl) (by assumption) ?_
                                        refine c_seq (fun K64 hK64 => ?_)
                                        exact (by
                                          refine c_region ?_
                                          refine l_step (y_moveV (et (gS rfl (gS rfl g0)) rfl)) ?_
                                          refine l_step (y_moveV (et (gS rfl (gS rfl (gS rfl (gS rfl g0)))) rfl)) ?_
                                          refine l_eff (e_callV cal_264 (aC (et (gS rfl g0) rfl) (aC (et g0 rfl) (aC (v := .int .i64 ((0 : Nat) : Int)) rfl aN))) (m_arg hE hs hp (by first | exact hpf | rfl) _ (by decide))) (fun v65 w65 h65 => ?_)
                                          obtain ⟨rfl, u65⟩ := h65
                                          replace hE := hE.up u65
                                          replace U := U.tr u65
                                          refine l_step (y_moveV (et (gS rfl (gS rfl (gS rfl (gS rfl (gS rfl g0))))) rfl)) ?_
                                          refine l_step (y_moveV (et (gS rfl (gS rfl (gS rfl (gS rfl (gS rfl (gS rfl (gS rfl g0))))))) rfl)) ?_
                                          refine l_eff (e_callV cal_264 (aC (et (gS rfl g0) rfl) (aC (et g0 rfl) (aC (v := .int .i64 ((2 : Nat) : Int)) rfl aN))) (m_arg hE hs hp (by first | exact hpf | rfl) _ (by decide))) (fun v66 w66 h66 => ?_)
                                          obtain ⟨rfl, u66⟩ := h66
                                          replace hE := hE.up u66
                                          replace U := U.tr u66
                                          refine l_eff (e_callV cal_361 (aC (et (gS rfl (gS rfl (gS rfl g0))) rfl) (aC (et g0 rfl) aN)) (mach_reach _ _ _ (by first | exact argN_lt hB _ | exact hB.value | assumption | decide | exact Nat.mod_lt _ (by decide)) (by first | exact argN_lt hB _ | exact hB.value | assumption | decide | exact Nat.mod_lt _ (by decide)))) (fun v67 w67 h67 => ?_)
                                          obtain ⟨rfl, u67⟩ := h67
                                          replace hE := hE.up u67
                                          replace U := U.tr u67
                                          refine l_step (y_ext (et g0 rfl) rfl) ?_
                                          refine l_step (y_ext (et (gS rfl g0) rfl) rfl) ?_
                                          refine l_step (y_assignV (et (gS rfl g0) rfl)) ?_
                                          refine l_step (y_assignV (et (gS rfl g0) rfl)) ?_
                                          refine l_nil ?_
                                          refine hK64 _ _ ?_
                                          refine fg2 6 7 (gS rfl g0) g0 (fun g => ?_)
                                          refine c_ret ?_
                                          refine hQ4 _ _ _ (in_ret ?_)
                                          repeat with_reducible refine then_ret ?_
                                          refine ret2 rfl (res_tmp (et (gS rfl g0) rfl)) (res_tmp (et g0 rfl)) ?_
                                          refine ⟨?_, U⟩
                                          have e1 := show rcN f.stack q = _ by unfold rcN; rw [if_neg (by omega), if_pos (by omega)]
                                          have e2 := show rbN f.stack q = _ by unfold rbN; rw [if_neg (by omega), if_pos (by omega)]
                                          rw [e1, e2]
                                          rfl)
                                      · skip
                                        
                                        have hq9 : q ≠ 55 := by have := of_decide_eq_false cB9; omega
                                        refine c_seq (fun K68 hK68 => ?_)
                                        exact (by
                                          refine c_region ?_
                                          refine l_step (y_eql (et (gS rfl g0) rfl) rfl) ?_
                                          refine l_step (y_assignV (et g0 rfl)) ?_
                                          refine l_nil ?_
                                          refine hK68 _ _ ?_
                                          refine fg4 1 0 8 27 (gS rfl (gS rfl (gS rfl (gS rfl (gS rfl g0))))) (gS rfl (gS rfl (gS rfl (gS rfl g0)))) (gS rfl (gS rfl (gS rfl g0))) g0 (fun g => ?_)
                                          refine c_cond (et g0 rfl) (fun cB10 => ?_) (fun cB10 => ?_)
                                          · skip
                                            
                                            have hq10 : q = 57 := by have := of_decide_eq_true cB10; omega
                                            refine c_skip ?_
                                            refine hK60 _ _ ?_
                                            refine c_true (et g0 rfl) (by assumption) ?_
                                            refine c_seq (fun K71 hK71 => ?_)
                                            exact (by
                                              refine c_region ?_
                                              refine l_step (y_moveV (et (gS rfl (gS rfl g0)) rfl)) ?_
                                              refine l_step (y_moveV (et (gS rfl (gS rfl (gS rfl (gS rfl g0)))) rfl)) ?_
                                              refine l_eff (e_callV cal_264 (aC (et (gS rfl g0) rfl) (aC (et g0 rfl) (aC (v := .int .i64 ((0 : Nat) : Int)) rfl aN))) (m_arg hE hs hp (by first | exact hpf | rfl) _ (by decide))) (fun v72 w72 h72 => ?_)
                                              obtain ⟨rfl, u72⟩ := h72
                                              replace hE := hE.up u72
                                              replace U := U.tr u72
                                              refine l_step (y_moveV (et (gS rfl (gS rfl (gS rfl (gS rfl (gS rfl g0))))) rfl)) ?_
                                              refine l_step (y_moveV (et (gS rfl (gS rfl (gS rfl (gS rfl (gS rfl (gS rfl (gS rfl g0))))))) rfl)) ?_
                                              refine l_eff (e_callV cal_264 (aC (et (gS rfl g0) rfl) (aC (et g0 rfl) (aC (v := .int .i64 ((2 : Nat) : Int)) rfl aN))) (m_arg hE hs hp (by first | exact hpf | rfl) _ (by decide))) (fun v73 w73 h73 => ?_)
                                              obtain ⟨rfl, u73⟩ := h73
                                              replace hE := hE.up u73
                                              replace U := U.tr u73
                                              refine l_eff (e_callV cal_361 (aC (et (gS rfl (gS rfl (gS rfl g0))) rfl) (aC (et g0 rfl) aN)) (mach_reach _ _ _ (by first | exact argN_lt hB _ | exact hB.value | assumption | decide | exact Nat.mod_lt _ (by decide)) (by first | exact argN_lt hB _ | exact hB.value | assumption | decide | exact Nat.mod_lt _ (by decide)))) (fun v74 w74 h74 => ?_)
                                              obtain ⟨rfl, u74⟩ := h74
                                              replace hE := hE.up u74
                                              replace U := U.tr u74
                                              refine l_step (y_ext (et g0 rfl) rfl) ?_
                                              refine l_step (y_ext (et (gS rfl g0) rfl) rfl) ?_
                                              refine l_step (y_assignV (et (gS rfl g0) rfl)) ?_
                                              refine l_step (y_assignV (et (gS rfl g0) rfl)) ?_
                                              refine l_nil ?_
                                              refine hK71 _ _ ?_
                                              refine fg2 6 7 (gS rfl g0) g0 (fun g => ?_)
                                              refine c_ret ?_
                                              refine hQ4 _ _ _ (in_ret ?_)
                                              repeat with_reducible refine then_ret ?_
                                              refine ret2 rfl (res_tmp (et (gS rfl g0) rfl)) (res_tmp (et g0 rfl)) ?_
                                              refine ⟨?_, U⟩
                                              have e1 := show rcN f.stack q = _ by unfold rcN; rw [if_neg (by omega), if_pos (by omega)]
                                              have e2 := show rbN f.stack q = _ by unfold rbN; rw [if_neg (by omega), if_pos (by omega)]
                                              rw [e1, e2]
                                              rfl)
                                          · skip
                                            
                                            have hq10 : q ≠ 57 := by have := of_decide_eq_false cB10; omega
                                            refine c_region ?_
                                            refine l_step (y_eql (et (gS rfl g0) rfl) rfl) ?_
                                            refine l_step (y_assignV (et g0 rfl)) ?_
                                            refine l_nil ?_
                                            refine hK60 _ _ ?_
                                            refine fg4 1 0 8 27 (gS rfl (gS rfl (gS rfl (gS rfl (gS rfl g0))))) (gS rfl (gS rfl (gS rfl (gS rfl g0)))) (gS rfl (gS rfl (gS rfl g0))) g0 (fun g => ?_)
                                            refine c_cond (et g0 rfl) (fun cB11 => ?_) (fun cB11 => ?_)
                                            · skip
                                              
                                              have hq11 : q = 62 := by have := of_decide_eq_true cB11; omega
                                              refine c_seq (fun K76 hK76 => ?_)
                                              exact (by
                                                refine c_region ?_
                                                refine l_step (y_moveV (et (gS rfl (gS rfl g0)) rfl)) ?_
                                                refine l_step (y_moveV (et (gS rfl (gS rfl (gS rfl (gS rfl g0)))) rfl)) ?_
                                                refine l_eff (e_callV cal_264 (aC (et (gS rfl g0) rfl) (aC (et g0 rfl) (aC (v := .int .i64 ((0 : Nat) : Int)) rfl aN))) (m_arg hE hs hp (by first | exact hpf | rfl) _ (by decide))) (fun v77 w77 h77 => ?_)
                                                obtain ⟨rfl, u77⟩ := h77
                                                replace hE := hE.up u77
                                                replace U := U.tr u77
                                                refine l_step (y_moveV (et (gS rfl (gS rfl (gS rfl (gS rfl (gS rfl g0))))) rfl)) ?_
                                                refine l_step (y_moveV (et (gS rfl (gS rfl (gS rfl (gS rfl (gS rfl (gS rfl (gS rfl g0))))))) rfl)) ?_
                                                refine l_eff (e_callV cal_264 (aC (et (gS rfl g0) rfl) (aC (et g0 rfl) (aC (v := .int .i64 ((2 : Nat) : Int)) rfl aN))) (m_arg hE hs hp (by first | exact hpf | rfl) _ (by decide))) (fun v78 w78 h78 => ?_)
                                                obtain ⟨rfl, u78⟩ := h78
                                                replace hE := hE.up u78
                                                replace U := U.tr u78
                                                refine l_eff (e_callV cal_361 (aC (et (gS rfl (gS rfl (gS rfl g0))) rfl) (aC (et g0 rfl) aN)) (mach_reach _ _ _ (by first | exact argN_lt hB _ | exact hB.value | assumption | decide | exact Nat.mod_lt _ (by decide)) (by first | exact argN_lt hB _ | exact hB.value | assumption | decide | exact Nat.mod_lt _ (by decide)))) (fun v79 w79 h79 => ?_)
                                                obtain ⟨rfl, u79⟩ := h79
                                                replace hE := hE.up u79
                                                replace U := U.tr u79
                                                refine l_step (y_ext (et g0 rfl) rfl) ?_
                                                refine l_step (y_ext (et (gS rfl g0) rfl) rfl) ?_
                                                refine l_step (y_assignV (et (gS rfl g0) rfl)) ?_
                                                refine l_step (y_assignV (et (gS rfl g0) rfl)) ?_
                                                refine l_nil ?_
                                                refine hK76 _ _ ?_
                                                refine fg2 6 7 (gS rfl g0) g0 (fun g => ?_)
                                                refine c_ret ?_
                                                refine hQ4 _ _ _ (in_ret ?_)
                                                repeat with_reducible refine then_ret ?_
                                                refine ret2 rfl (res_tmp (et (gS rfl g0) rfl)) (res_tmp (et g0 rfl)) ?_
                                                refine ⟨?_, U⟩
                                                have e1 := show rcN f.stack q = _ by unfold rcN; rw [if_neg (by omega), if_pos (by omega)]
                                                have e2 := show rbN f.stack q = _ by unfold rbN; rw [if_neg (by omega), if_pos (by omega)]
                                                rw [e1, e2]
                                                rfl)
                                            · skip
                                              
                                              have hq11 : q ≠ 62 := by have := of_decide_eq_false cB11; omega
                                              refine c_seq (fun K80 hK80 => ?_)
                                              exact (by
                                                refine c_region ?_
                                                refine l_step (y_eql (et (gS rfl g0) rfl) rfl) ?_
                                                refine l_step (y_assignV (et g0 rfl)) ?_
                                                refine l_nil ?_
                                                refine hK80 _ _ ?_
                                                refine fg4 1 0 8 40 (gS rfl (gS rfl (gS rfl (gS rfl (gS rfl g0))))) (gS rfl (gS rfl (gS rfl (gS rfl g0)))) (gS rfl (gS rfl (gS rfl g0))) g0 (fun g => ?_)
                                                refine c_cond (et g0 rfl) (fun cB12 => ?_) (fun cB12 => ?_)
                                                · skip
                                                  
                                                  have hq12 : q = 60 := by have := of_decide_eq_true cB12; omega
                                                  refine c_seq (fun K82 hK82 => ?_)
                                                  exact (by
                                                    refine c_region ?_
                                                    refine l_step (y_moveV (et (gS rfl (gS rfl g0)) rfl)) ?_
                                                    refine l_step (y_moveV (et (gS rfl (gS rfl (gS rfl (gS rfl g0)))) rfl)) ?_
                                                    refine l_eff (e_callV cal_264 (aC (et (gS rfl g0) rfl) (aC (et g0 rfl) (aC (v := .int .i64 ((1 : Nat) : Int)) rfl aN))) (m_arg hE hs hp (by first | exact hpf | rfl) _ (by decide))) (fun v83 w83 h83 => ?_)
                                                    obtain ⟨rfl, u83⟩ := h83
                                                    replace hE := hE.up u83
                                                    replace U := U.tr u83
                                                    refine l_step (y_moveV (et (gS rfl (gS rfl (gS rfl (gS rfl (gS rfl g0))))) rfl)) ?_
                                                    refine l_step (y_moveV (et (gS rfl (gS rfl (gS rfl (gS rfl (gS rfl (gS rfl (gS rfl g0))))))) rfl)) ?_
                                                    refine l_eff (e_callV cal_264 (aC (et (gS rfl g0) rfl) (aC (et g0 rfl) (aC (v := .int .i64 ((3 : Nat) : Int)) rfl aN))) (m_arg hE hs hp (by first | exact hpf | rfl) _ (by decide))) (fun v84 w84 h84 => ?_)
                                                    obtain ⟨rfl, u84⟩ := h84
                                                    replace hE := hE.up u84
                                                    replace U := U.tr u84
                                                    refine l_eff (e_callV cal_361 (aC (et (gS rfl (gS rfl (gS rfl g0))) rfl) (aC (et g0 rfl) aN)) (mach_reach _ _ _ (by first | exact argN_lt hB _ | exact hB.value | assumption | decide | exact Nat.mod_lt _ (by decide)) (by first | exact argN_lt hB _ | exact hB.value | assumption | decide | exact Nat.mod_lt _ (by decide)))) (fun v85 w85 h85 => ?_)
                                                    obtain ⟨rfl, u85⟩ := h85
                                                    replace hE := hE.up u85
                                                    replace U := U.tr u85
                                                    refine l_step (y_ext (et g0 rfl) rfl) ?_
                                                    refine l_step (y_ext (et (gS rfl g0) rfl) rfl) ?_
                                                    refine l_step (y_assignV (et (gS rfl g0) rfl)) ?_
                                                    refine l_step (y_assignV (et (gS rfl g0) rfl)) ?_
                                                    refine l_nil ?_
                                                    refine hK82 _ _ ?_
                                                    refine fg2 6 7 (gS rfl g0) g0 (fun g => ?_)
                                                    refine c_ret ?_
                                                    refine hQ4 _ _ _ (in_ret ?_)
                                                    repeat with_reducible refine then_ret ?_
                                                    refine ret2 rfl (res_tmp (et (gS rfl g0) rfl)) (res_tmp (et g0 rfl)) ?_
                                                    refine ⟨?_, U⟩
                                                    have e1 := show rcN f.stack q = _ by unfold rcN; rw [if_neg (by omega), if_neg (by omega), if_pos (by omega)]
                                                    have e2 := show rbN f.stack q = _ by unfold rbN; rw [if_neg (by omega), if_neg (by omega), if_pos (by omega)]
                                                    rw [e1, e2]
                                                    rfl)
                                                · skip
                                                  
                                                  have hq12 : q ≠ 60 := by have := of_decide_eq_false cB12; omega
                                                  refine c_seq (fun K86 hK86 => ?_)
                                                  refine c_seq (fun K87 hK87 => ?_)
                                                  exact (by
                                                    refine c_region ?_
                                                    refine l_step (y_eql (et (gS rfl g0) rfl) rfl) ?_
                                                    refine l_step (y_assignV (et g0 rfl)) ?_
                                                    refine l_nil ?_
                                                    refine hK87 _ _ ?_
                                                    refine fg4 1 0 8 51 (gS rfl (gS rfl (gS rfl (gS rfl (gS rfl g0))))) (gS rfl (gS rfl (gS rfl (gS rfl g0)))) (gS rfl (gS rfl (gS rfl g0))) g0 (fun g => ?_)
                                                    refine c_cond (et g0 rfl) (fun cB13 => ?_) (fun cB13 => ?_)
                                                    · skip
                                                      
                                                      have hq13 : q = 81 := by have := of_decide_eq_true cB13; omega
                                                      refine c_skip ?_
                                                      refine hK86 _ _ ?_
                                                      refine c_true (et g0 rfl) (by assumption) ?_
                                                      refine c_seq (fun K90 hK90 => ?_)
                                                      exact (by
                                                        refine c_region ?_
                                                        refine l_step (y_moveV (et (gS rfl (gS rfl g0)) rfl)) ?_
                                                        refine l_step (y_moveV (et (gS rfl (gS rfl (gS rfl (gS rfl g0)))) rfl)) ?_
                                                        refine l_eff (e_callV cal_264 (aC (et (gS rfl g0) rfl) (aC (et g0 rfl) (aC (v := .int .i64 ((0 : Nat) : Int)) rfl aN))) (m_arg hE hs hp (by first | exact hpf | rfl) _ (by decide))) (fun v91 w91 h91 => ?_)
                                                        obtain ⟨rfl, u91⟩ := h91
                                                        replace hE := hE.up u91
                                                        replace U := U.tr u91
                                                        refine l_step (y_bld (bC rfl bN) (fun w => (bld65_1 32 w).trans (show _ = Result.ok (wV 32) w from rfl))) ?_
                                                        refine l_eff (e_callV cal_361 (aC (et (gS rfl g0) rfl) (aC (et g0 rfl) aN)) (mach_reach _ _ _ (by first | exact argN_lt hB _ | exact hB.value | assumption | decide | exact Nat.mod_lt _ (by decide)) (by first | exact argN_lt hB _ | exact hB.value | assumption | decide | exact Nat.mod_lt _ (by decide)))) (fun v92 w92 h92 => ?_)
                                                        obtain ⟨rfl, u92⟩ := h92
                                                        replace hE := hE.up u92
                                                        replace U := U.tr u92
                                                        refine l_step (y_ext (et g0 rfl) rfl) ?_
                                                        refine l_step (y_ext (et (gS rfl g0) rfl) rfl) ?_
                                                        refine l_step (y_assignV (et (gS rfl g0) rfl)) ?_
                                                        refine l_step (y_assignV (et (gS rfl g0) rfl)) ?_
                                                        refine l_nil ?_
                                                        refine hK90 _ _ ?_
                                                        refine fg2 6 7 (gS rfl g0) g0 (fun g => ?_)
                                                        refine c_ret ?_
                                                        refine hQ4 _ _ _ (in_ret ?_)
                                                        repeat with_reducible refine then_ret ?_
                                                        refine ret2 rfl (res_tmp (et (gS rfl g0) rfl)) (res_tmp (et g0 rfl)) ?_
                                                        refine ⟨?_, U⟩
                                                        have e1 := show rcN f.stack q = _ by unfold rcN; rw [if_neg (by omega), if_neg (by omega), if_neg (by omega), if_pos (by omega)]
                                                        have e2 := show rbN f.stack q = _ by unfold rbN; rw [if_neg (by omega), if_neg (by omega), if_neg (by omega), if_pos (by omega)]
                                                        rw [e1, e2]
                                                        rfl)
                                                    · skip
                                                      
                                                      have hq13 : q ≠ 81 := by have := of_decide_eq_false cB13; omega
                                                      refine c_region ?_
                                                      refine l_step (y_eql (et (gS rfl g0) rfl) rfl) ?_
                                                      refine l_step (y_assignV (et g0 rfl)) ?_
                                                      refine l_nil ?_
                                                      refine hK86 _ _ ?_
                                                      refine fg4 1 0 8 51 (gS rfl (gS rfl (gS rfl (gS rfl (gS rfl g0))))) (gS rfl (gS rfl (gS rfl (gS rfl g0)))) (gS rfl (gS rfl (gS rfl g0))) g0 (fun g => ?_)
                                                      refine c_cond (et g0 rfl) (fun cB14 => ?_) (fun cB14 => ?_)
                                                      · skip
                                                        
                                                        have hq14 : q = 82 := by have := of_decide_eq_true cB14; omega
                                                        refine c_seq (fun K94 hK94 => ?_)
                                                        exact (by
                                                          refine c_region ?_
                                                          refine l_step (y_moveV (et (gS rfl (gS rfl g0)) rfl)) ?_
                                                          refine l_step (y_moveV (et (gS rfl (gS rfl (gS rfl (gS rfl g0)))) rfl)) ?_
                                                          refine l_eff (e_callV cal_264 (aC (et (gS rfl g0) rfl) (aC (et g0 rfl) (aC (v := .int .i64 ((0 : Nat) : Int)) rfl aN))) (m_arg hE hs hp (by first | exact hpf | rfl) _ (by decide))) (fun v95 w95 h95 => ?_)
                                                          obtain ⟨rfl, u95⟩ := h95
                                                          replace hE := hE.up u95
                                                          replace U := U.tr u95
                                                          refine l_step (y_bld (bC rfl bN) (fun w => (bld65_1 32 w).trans (show _ = Result.ok (wV 32) w from rfl))) ?_
                                                          refine l_eff (e_callV cal_361 (aC (et (gS rfl g0) rfl) (aC (et g0 rfl) aN)) (mach_reach _ _ _ (by first | exact argN_lt hB _ | exact hB.value | assumption | decide | exact Nat.mod_lt _ (by decide)) (by first | exact argN_lt hB _ | exact hB.value | assumption | decide | exact Nat.mod_lt _ (by decide)))) (fun v96 w96 h96 => ?_)
                                                          obtain ⟨rfl, u96⟩ := h96
                                                          replace hE := hE.up u96
                                                          replace U := U.tr u96
                                                          refine l_step (y_ext (et g0 rfl) rfl) ?_
                                                          refine l_step (y_ext (et (gS rfl g0) rfl) rfl) ?_
                                                          refine l_step (y_assignV (et (gS rfl g0) rfl)) ?_
                                                          refine l_step (y_assignV (et (gS rfl g0) rfl)) ?_
                                                          refine l_nil ?_
                                                          refine hK94 _ _ ?_
                                                          refine fg2 6 7 (gS rfl g0) g0 (fun g => ?_)
                                                          refine c_ret ?_
                                                          refine hQ4 _ _ _ (in_ret ?_)
                                                          repeat with_reducible refine then_ret ?_
                                                          refine ret2 rfl (res_tmp (et (gS rfl g0) rfl)) (res_tmp (et g0 rfl)) ?_
                                                          refine ⟨?_, U⟩
                                                          have e1 := show rcN f.stack q = _ by unfold rcN; rw [if_neg (by omega), if_neg (by omega), if_neg (by omega), if_pos (by omega)]
                                                          have e2 := show rbN f.stack q = _ by unfold rbN; rw [if_neg (by omega), if_neg (by omega), if_neg (by omega), if_pos (by omega)]
                                                          rw [e1, e2]
                                                          rfl)
                                                      · skip
                                                        
                                                        have hq14 : q ≠ 82 := by have := of_decide_eq_false cB14; omega
                                                        refine c_seq (fun K97 hK97 => ?_)
                                                        exact (by
                                                          refine c_region ?_
                                                          refine l_step (y_eql (et (gS rfl g0) rfl) rfl) ?_
                                                          refine l_step (y_assignV (et g0 rfl)) ?_
                                                          refine l_nil ?_
                                                          refine hK97 _ _ ?_
                                                          refine fg4 1 0 8 61 (gS rfl (gS rfl (gS rfl (gS rfl (gS rfl g0))))) (gS rfl (gS rfl (gS rfl (gS rfl g0)))) (gS rfl (gS rfl (gS rfl g0))) g0 (fun g => ?_)
                                                          refine c_cond (et g0 rfl) (fun cB15 => ?_) (fun cB15 => ?_)
                                                          · skip
                                                            
                                                            have hq15 : q = 83 := by have := of_decide_eq_true cB15; omega
                                                            refine c_seq (fun K99 hK99 => ?_)
                                                            exact (by
                                                              refine c_region ?_
                                                              refine l_step (y_moveV (et (gS rfl (gS rfl g0)) rfl)) ?_
                                                              refine l_step (y_moveV (et (gS rfl (gS rfl (gS rfl (gS rfl g0)))) rfl)) ?_
                                                              refine l_eff (e_callV cal_264 (aC (et (gS rfl g0) rfl) (aC (et g0 rfl) (aC (v := .int .i64 ((0 : Nat) : Int)) rfl aN))) (m_arg hE hs hp (by first | exact hpf | rfl) _ (by decide))) (fun v100 w100 h100 => ?_)
                                                              obtain ⟨rfl, u100⟩ := h100
                                                              replace hE := hE.up u100
                                                              replace U := U.tr u100
                                                              refine l_step (y_bld (bC rfl bN) (fun w => (bld65_1 1 w).trans (show _ = Result.ok (wV 1) w from rfl))) ?_
                                                              refine l_eff (e_callV cal_361 (aC (et (gS rfl g0) rfl) (aC (et g0 rfl) aN)) (mach_reach _ _ _ (by first | exact argN_lt hB _ | exact hB.value | assumption | decide | exact Nat.mod_lt _ (by decide)) (by first | exact argN_lt hB _ | exact hB.value | assumption | decide | exact Nat.mod_lt _ (by decide)))) (fun v101 w101 h101 => ?_)
                                                              obtain ⟨rfl, u101⟩ := h101
                                                              replace hE := hE.up u101
                                                              replace U := U.tr u101
                                                              refine l_step (y_ext (et g0 rfl) rfl) ?_
                                                              refine l_step (y_ext (et (gS rfl g0) rfl) rfl) ?_
                                                              refine l_step (y_assignV (et (gS rfl g0) rfl)) ?_
                                                              refine l_step (y_assignV (et (gS rfl g0) rfl)) ?_
                                                              refine l_nil ?_
                                                              refine hK99 _ _ ?_
                                                              refine fg2 6 7 (gS rfl g0) g0 (fun g => ?_)
                                                              refine c_ret ?_
                                                              refine hQ4 _ _ _ (in_ret ?_)
                                                              repeat with_reducible refine then_ret ?_
                                                              refine ret2 rfl (res_tmp (et (gS rfl g0) rfl)) (res_tmp (et g0 rfl)) ?_
                                                              refine ⟨?_, U⟩
                                                              have e1 := show rcN f.stack q = _ by unfold rcN; rw [if_neg (by omega), if_neg (by omega), if_neg (by omega), if_neg (by omega), if_pos (by omega)]
                                                              have e2 := show rbN f.stack q = _ by unfold rbN; rw [if_neg (by omega), if_neg (by omega), if_neg (by omega), if_neg (by omega), if_pos (by omega)]
                                                              rw [e1, e2]
                                                              rfl)
                                                          · skip
                                                            
                                                            have hq15 : q ≠ 83 := by have := of_decide_eq_false cB15; omega
                                                            refine c_seq (fun K102 hK102 => ?_)
                                                            exact (by
                                                              refine c_region ?_
                                                              refine l_step (y_eql (et (gS rfl g0) rfl) rfl) ?_
                                                              refine l_step (y_assignV (et g0 rfl)) ?_
                                                              refine l_nil ?_
                                                              refine hK102 _ _ ?_
                                                              refine fg4 1 0 8 70 (gS rfl (gS rfl (gS rfl (gS rfl (gS rfl g0))))) (gS rfl (gS rfl (gS rfl (gS rfl g0)))) (gS rfl (gS rfl (gS rfl g0))) g0 (fun g => ?_)
                                                              refine c_cond (et g0 rfl) (fun cB16 => ?_) (fun cB16 => ?_)
                                                              · skip
                                                                
                                                                have hq16 : q = 94 := by have := of_decide_eq_true cB16; omega
                                                                refine c_seq (fun K104 hK104 => ?_)
                                                                exact (by
                                                                  refine c_region ?_
                                                                  refine l_step (y_moveV (et (gS rfl (gS rfl g0)) rfl)) ?_
                                                                  refine l_step (y_moveV (et (gS rfl (gS rfl (gS rfl (gS rfl g0)))) rfl)) ?_
                                                                  refine l_eff (e_callV cal_264 (aC (et (gS rfl g0) rfl) (aC (et g0 rfl) (aC (v := .int .i64 ((0 : Nat) : Int)) rfl aN))) (m_arg hE hs hp (by first | exact hpf | rfl) _ (by decide))) (fun v105 w105 h105 => ?_)
                                                                  obtain ⟨rfl, u105⟩ := h105
                                                                  replace hE := hE.up u105
                                                                  replace U := U.tr u105
                                                                  refine l_step (y_moveV (et (gS rfl (gS rfl (gS rfl (gS rfl (gS rfl g0))))) rfl)) ?_
                                                                  refine l_step (y_moveV (et (gS rfl (gS rfl (gS rfl (gS rfl (gS rfl (gS rfl (gS rfl g0))))))) rfl)) ?_
                                                                  refine l_eff (e_callV cal_264 (aC (et (gS rfl g0) rfl) (aC (et g0 rfl) (aC (v := .int .i64 ((2 : Nat) : Int)) rfl aN))) (m_arg hE hs hp (by first | exact hpf | rfl) _ (by decide))) (fun v106 w106 h106 => ?_)
                                                                  obtain ⟨rfl, u106⟩ := h106
                                                                  replace hE := hE.up u106
                                                                  replace U := U.tr u106
                                                                  refine l_step (y_moveV (et (gS rfl (gS rfl (gS rfl (gS rfl (gS rfl (gS rfl (gS rfl (gS rfl g0)))))))) rfl)) ?_
                                                                  refine l_step (y_moveV (et (gS rfl (gS rfl (gS rfl (gS rfl (gS rfl (gS rfl (gS rfl (gS rfl (gS rfl (gS rfl g0)))))))))) rfl)) ?_
                                                                  refine l_eff (e_callV cal_264 (aC (et (gS rfl g0) rfl) (aC (et g0 rfl) (aC (v := .int .i64 ((1 : Nat) : Int)) rfl aN))) (m_arg hE hs hp (by first | exact hpf | rfl) _ (by decide))) (fun v107 w107 h107 => ?_)
                                                                  obtain ⟨rfl, u107⟩ := h107
                                                                  replace hE := hE.up u107
                                                                  replace U := U.tr u107
                                                                  refine l_step (y_moveV (et (gS rfl (gS rfl (gS rfl (gS rfl (gS rfl (gS rfl (gS rfl (gS rfl (gS rfl (gS rfl (gS rfl g0))))))))))) rfl)) ?_
                                                                  refine l_step (y_moveV (et (gS rfl (gS rfl (gS rfl (gS rfl (gS rfl (gS rfl (gS rfl (gS rfl (gS rfl (gS rfl (gS rfl (gS rfl (gS rfl g0))))))))))))) rfl)) ?_
                                                                  refine l_eff (e_callV cal_264 (aC (et (gS rfl g0) rfl) (aC (et g0 rfl) (aC (v := .int .i64 ((2 : Nat) : Int)) rfl aN))) (m_arg hE hs hp (by first | exact hpf | rfl) _ (by decide))) (fun v108 w108 h108 => ?_)
                                                                  obtain ⟨rfl, u108⟩ := h108
                                                                  replace hE := hE.up u108
                                                                  replace U := U.tr u108
                                                                  refine l_eff (e_callV cal_362 (aC (et (gS rfl (gS rfl (gS rfl (gS rfl (gS rfl (gS rfl (gS rfl (gS rfl (gS rfl g0))))))))) rfl) (aC (et (gS rfl (gS rfl (gS rfl (gS rfl (gS rfl (gS rfl g0)))))) rfl) (aC (et (gS rfl (gS rfl (gS rfl g0))) rfl) (aC (et g0 rfl) aN)))) (mach_reach2 _ _ _ _ _ (by first | exact argN_lt hB _ | exact hB.value | assumption | decide | exact Nat.mod_lt _ (by decide)) (by first | exact argN_lt hB _ | exact hB.value | assumption | decide | exact Nat.mod_lt _ (by decide)) (by first | exact argN_lt hB _ | exact hB.value | assumption | decide | exact Nat.mod_lt _ (by decide)) (by first | exact argN_lt hB _ | exact hB.value | assumption | decide | exact Nat.mod_lt _ (by decide)))) (fun v109 w109 h109 => ?_)
                                                                  obtain ⟨rfl, u109⟩ := h109
                                                                  replace hE := hE.up u109
                                                                  replace U := U.tr u109
                                                                  refine l_step (y_ext (et g0 rfl) rfl) ?_
                                                                  refine l_step (y_ext (et (gS rfl g0) rfl) rfl) ?_
                                                                  exact (by
                                                                    refine l_step (y_assignV (et (gS rfl g0) rfl)) ?_
                                                                    refine l_step (y_assignV (et (gS rfl g0) rfl)) ?_
                                                                    refine l_nil ?_
                                                                    refine hK104 _ _ ?_
                                                                    refine fg2 6 7 (gS rfl g0) g0 (fun g => ?_)
                                                                    refine c_ret ?_
                                                                    refine hQ4 _ _ _ (in_ret ?_)
                                                                    repeat with_reducible refine then_ret ?_
                                                                    refine ret2 rfl (res_tmp (et (gS rfl g0) rfl)) (res_tmp (et g0 rfl)) ?_
                                                                    refine ⟨?_, U⟩
                                                                    have e1 := show rcN f.stack q = _ by unfold rcN; rw [if_neg (by omega), if_neg (by omega), if_neg (by omega), if_neg (by omega), if_neg (by omega), if_pos (by omega)]
                                                                    have e2 := show rbN f.stack q = _ by unfold rbN; rw [if_neg (by omega), if_neg (by omega), if_neg (by omega), if_neg (by omega), if_neg (by omega), if_pos (by omega)]
                                                                    rw [e1, e2]
                                                                    rfl))
                                                              · skip
                                                                
                                                                have hq16 : q ≠ 94 := by have := of_decide_eq_false cB16; omega
                                                                refine c_seq (fun K110 hK110 => ?_)
                                                                refine c_seq (fun K111 hK111 => ?_)
                                                                exact (by
                                                                  refine c_region ?_
                                                                  refine l_step (y_eql (et (gS rfl g0) rfl) rfl) ?_
                                                                  refine l_step (y_assignV (et g0 rfl)) ?_
                                                                  refine l_nil ?_
                                                                  refine hK111 _ _ ?_
                                                                  refine fg4 1 0 8 87 (gS rfl (gS rfl (gS rfl (gS rfl (gS rfl g0))))) (gS rfl (gS rfl (gS rfl (gS rfl g0)))) (gS rfl (gS rfl (gS rfl g0))) g0 (fun g => ?_)
                                                                  refine c_cond (et g0 rfl) (fun cB17 => ?_) (fun cB17 => ?_)
                                                                  · skip
                                                                    
                                                                    have hq17 : q = 240 := by have := of_decide_eq_true cB17; omega
                                                                    refine c_skip ?_
                                                                    refine hK110 _ _ ?_
                                                                    refine c_true (et g0 rfl) (by assumption) ?_
                                                                    refine c_seq (fun K114 hK114 => ?_)
                                                                    exact (by
                                                                      refine c_region ?_
                                                                      refine l_step (y_moveV (et (gS rfl (gS rfl g0)) rfl)) ?_
                                                                      refine l_step (y_moveV (et (gS rfl (gS rfl (gS rfl (gS rfl g0)))) rfl)) ?_
                                                                      refine l_eff (e_callV cal_264 (aC (et (gS rfl g0) rfl) (aC (et g0 rfl) (aC (v := .int .i64 ((1 : Nat) : Int)) rfl aN))) (m_arg hE hs hp (by first | exact hpf | rfl) _ (by decide))) (fun v115 w115 h115 => ?_)
                                                                      obtain ⟨rfl, u115⟩ := h115
                                                                      replace hE := hE.up u115
                                                                      replace U := U.tr u115
                                                                      refine l_step (y_moveV (et (gS rfl (gS rfl (gS rfl (gS rfl (gS rfl g0))))) rfl)) ?_
                                                                      refine l_step (y_moveV (et (gS rfl (gS rfl (gS rfl (gS rfl (gS rfl (gS rfl (gS rfl g0))))))) rfl)) ?_
                                                                      refine l_eff (e_callV cal_264 (aC (et (gS rfl g0) rfl) (aC (et g0 rfl) (aC (v := .int .i64 ((2 : Nat) : Int)) rfl aN))) (m_arg hE hs hp (by first | exact hpf | rfl) _ (by decide))) (fun v116 w116 h116 => ?_)
                                                                      obtain ⟨rfl, u116⟩ := h116
                                                                      replace hE := hE.up u116
                                                                      replace U := U.tr u116
                                                                      refine l_eff (e_callV cal_361 (aC (et (gS rfl (gS rfl (gS rfl g0))) rfl) (aC (et g0 rfl) aN)) (mach_reach _ _ _ (by first | exact argN_lt hB _ | exact hB.value | assumption | decide | exact Nat.mod_lt _ (by decide)) (by first | exact argN_lt hB _ | exact hB.value | assumption | decide | exact Nat.mod_lt _ (by decide)))) (fun v117 w117 h117 => ?_)
                                                                      obtain ⟨rfl, u117⟩ := h117
                                                                      replace hE := hE.up u117
                                                                      replace U := U.tr u117
                                                                      refine l_step (y_ext (et g0 rfl) rfl) ?_
                                                                      refine l_step (y_ext (et (gS rfl g0) rfl) rfl) ?_
                                                                      refine l_step (y_assignV (et (gS rfl g0) rfl)) ?_
                                                                      refine l_step (y_assignV (et (gS rfl g0) rfl)) ?_
                                                                      refine l_nil ?_
                                                                      refine hK114 _ _ ?_
                                                                      refine fg2 6 7 (gS rfl g0) g0 (fun g => ?_)
                                                                      refine c_ret ?_
                                                                      refine hQ4 _ _ _ (in_ret ?_)
                                                                      repeat with_reducible refine then_ret ?_
                                                                      refine ret2 rfl (res_tmp (et (gS rfl g0) rfl)) (res_tmp (et g0 rfl)) ?_
                                                                      refine ⟨?_, U⟩
                                                                      have e1 := show rcN f.stack q = _ by unfold rcN; rw [if_neg (by omega), if_neg (by omega), if_neg (by omega), if_neg (by omega), if_neg (by omega), if_neg (by omega), if_pos (by omega)]
                                                                      have e2 := show rbN f.stack q = _ by unfold rbN; rw [if_neg (by omega), if_neg (by omega), if_neg (by omega), if_neg (by omega), if_neg (by omega), if_neg (by omega), if_pos (by omega)]
                                                                      rw [e1, e2]
                                                                      rfl)
                                                                  · skip
                                                                    
                                                                    have hq17 : q ≠ 240 := by have := of_decide_eq_false cB17; omega
                                                                    refine c_region ?_
                                                                    refine l_step (y_eql (et (gS rfl g0) rfl) rfl) ?_
                                                                    refine l_step (y_assignV (et g0 rfl)) ?_
                                                                    refine l_nil ?_
                                                                    refine hK110 _ _ ?_
                                                                    refine fg4 1 0 8 87 (gS rfl (gS rfl (gS rfl (gS rfl (gS rfl g0))))) (gS rfl (gS rfl (gS rfl (gS rfl g0)))) (gS rfl (gS rfl (gS rfl g0))) g0 (fun g => ?_)
                                                                    refine c_cond (et g0 rfl) (fun cB18 => ?_) (fun cB18 => ?_)
                                                                    · skip
                                                                      
                                                                      have hq18 : q = 245 := by have := of_decide_eq_true cB18; omega
                                                                      refine c_seq (fun K119 hK119 => ?_)
                                                                      exact (by
                                                                        refine c_region ?_
                                                                        refine l_step (y_moveV (et (gS rfl (gS rfl g0)) rfl)) ?_
                                                                        refine l_step (y_moveV (et (gS rfl (gS rfl (gS rfl (gS rfl g0)))) rfl)) ?_
                                                                        refine l_eff (e_callV cal_264 (aC (et (gS rfl g0) rfl) (aC (et g0 rfl) (aC (v := .int .i64 ((1 : Nat) : Int)) rfl aN))) (m_arg hE hs hp (by first | exact hpf | rfl) _ (by decide))) (fun v120 w120 h120 => ?_)
                                                                        obtain ⟨rfl, u120⟩ := h120
                                                                        replace hE := hE.up u120
                                                                        replace U := U.tr u120
                                                                        refine l_step (y_moveV (et (gS rfl (gS rfl (gS rfl (gS rfl (gS rfl g0))))) rfl)) ?_
                                                                        refine l_step (y_moveV (et (gS rfl (gS rfl (gS rfl (gS rfl (gS rfl (gS rfl (gS rfl g0))))))) rfl)) ?_
                                                                        refine l_eff (e_callV cal_264 (aC (et (gS rfl g0) rfl) (aC (et g0 rfl) (aC (v := .int .i64 ((2 : Nat) : Int)) rfl aN))) (m_arg hE hs hp (by first | exact hpf | rfl) _ (by decide))) (fun v121 w121 h121 => ?_)
                                                                        obtain ⟨rfl, u121⟩ := h121
                                                                        replace hE := hE.up u121
                                                                        replace U := U.tr u121
                                                                        refine l_eff (e_callV cal_361 (aC (et (gS rfl (gS rfl (gS rfl g0))) rfl) (aC (et g0 rfl) aN)) (mach_reach _ _ _ (by first | exact argN_lt hB _ | exact hB.value | assumption | decide | exact Nat.mod_lt _ (by decide)) (by first | exact argN_lt hB _ | exact hB.value | assumption | decide | exact Nat.mod_lt _ (by decide)))) (fun v122 w122 h122 => ?_)
                                                                        obtain ⟨rfl, u122⟩ := h122
                                                                        replace hE := hE.up u122
                                                                        replace U := U.tr u122
                                                                        refine l_step (y_ext (et g0 rfl) rfl) ?_
                                                                        refine l_step (y_ext (et (gS rfl g0) rfl) rfl) ?_
                                                                        refine l_step (y_assignV (et (gS rfl g0) rfl)) ?_
                                                                        refine l_step (y_assignV (et (gS rfl g0) rfl)) ?_
                                                                        refine l_nil ?_
                                                                        refine hK119 _ _ ?_
                                                                        refine fg2 6 7 (gS rfl g0) g0 (fun g => ?_)
                                                                        refine c_ret ?_
                                                                        refine hQ4 _ _ _ (in_ret ?_)
                                                                        repeat with_reducible refine then_ret ?_
                                                                        refine ret2 rfl (res_tmp (et (gS rfl g0) rfl)) (res_tmp (et g0 rfl)) ?_
                                                                        refine ⟨?_, U⟩
                                                                        have e1 := show rcN f.stack q = _ by unfold rcN; rw [if_neg (by omega), if_neg (by omega), if_neg (by omega), if_neg (by omega), if_neg (by omega), if_neg (by omega), if_pos (by omega)]
                                                                        have e2 := show rbN f.stack q = _ by unfold rbN; rw [if_neg (by omega), if_neg (by omega), if_neg (by omega), if_neg (by omega), if_neg (by omega), if_neg (by omega), if_pos (by omega)]
                                                                        rw [e1, e2]
                                                                        rfl)
                                                                    · skip
                                                                      
                                                                      have hq18 : q ≠ 245 := by have := of_decide_eq_false cB18; omega
                                                                      refine c_seq (fun K123 hK123 => ?_)
                                                                      refine c_seq (fun K124 hK124 => ?_)
                                                                      exact (by
                                                                        refine c_region ?_
                                                                        refine l_step (y_eql (et (gS rfl g0) rfl) rfl) ?_
                                                                        refine l_step (y_assignV (et g0 rfl)) ?_
                                                                        refine l_nil ?_
                                                                        refine hK124 _ _ ?_
                                                                        refine fg4 1 0 8 99 (gS rfl (gS rfl (gS rfl (gS rfl (gS rfl g0))))) (gS rfl (gS rfl (gS rfl (gS rfl g0)))) (gS rfl (gS rfl (gS rfl g0))) g0 (fun g => ?_)
                                                                        refine c_cond (et g0 rfl) (fun cB19 => ?_) (fun cB19 => ?_)
                                                                        · skip
                                                                          
                                                                          have hq19 : q = 241 := by have := of_decide_eq_true cB19; omega
                                                                          refine c_skip ?_
                                                                          refine hK123 _ _ ?_
                                                                          refine c_true (et g0 rfl) (by assumption) ?_
                                                                          refine c_seq (fun K127 hK127 => ?_)
                                                                          exact (by
                                                                            refine c_region ?_
                                                                            refine l_step (y_moveV (et (gS rfl (gS rfl g0)) rfl)) ?_
                                                                            refine l_step (y_moveV (et (gS rfl (gS rfl (gS rfl (gS rfl g0)))) rfl)) ?_
                                                                            refine l_eff (e_callV cal_264 (aC (et (gS rfl g0) rfl) (aC (et g0 rfl) (aC (v := .int .i64 ((3 : Nat) : Int)) rfl aN))) (m_arg hE hs hp (by first | exact hpf | rfl) _ (by decide))) (fun v128 w128 h128 => ?_)
                                                                            obtain ⟨rfl, u128⟩ := h128
                                                                            replace hE := hE.up u128
                                                                            replace U := U.tr u128
                                                                            refine l_step (y_moveV (et (gS rfl (gS rfl (gS rfl (gS rfl (gS rfl g0))))) rfl)) ?_
                                                                            refine l_step (y_moveV (et (gS rfl (gS rfl (gS rfl (gS rfl (gS rfl (gS rfl (gS rfl g0))))))) rfl)) ?_
                                                                            refine l_eff (e_callV cal_264 (aC (et (gS rfl g0) rfl) (aC (et g0 rfl) (aC (v := .int .i64 ((4 : Nat) : Int)) rfl aN))) (m_arg hE hs hp (by first | exact hpf | rfl) _ (by decide))) (fun v129 w129 h129 => ?_)
                                                                            obtain ⟨rfl, u129⟩ := h129
                                                                            replace hE := hE.up u129
                                                                            replace U := U.tr u129
                                                                            refine l_step (y_moveV (et (gS rfl (gS rfl (gS rfl (gS rfl (gS rfl (gS rfl (gS rfl (gS rfl g0)))))))) rfl)) ?_
                                                                            refine l_step (y_moveV (et (gS rfl (gS rfl (gS rfl (gS rfl (gS rfl (gS rfl (gS rfl (gS rfl (gS rfl (gS rfl g0)))))))))) rfl)) ?_
                                                                            refine l_eff (e_callV cal_264 (aC (et (gS rfl g0) rfl) (aC (et g0 rfl) (aC (v := .int .i64 ((5 : Nat) : Int)) rfl aN))) (m_arg hE hs hp (by first | exact hpf | rfl) _ (by decide))) (fun v130 w130 h130 => ?_)
                                                                            obtain ⟨rfl, u130⟩ := h130
                                                                            replace hE := hE.up u130
                                                                            replace U := U.tr u130
                                                                            refine l_step (y_moveV (et (gS rfl (gS rfl (gS rfl (gS rfl (gS rfl (gS rfl (gS rfl (gS rfl (gS rfl (gS rfl (gS rfl g0))))))))))) rfl)) ?_
                                                                            refine l_step (y_moveV (et (gS rfl (gS rfl (gS rfl (gS rfl (gS rfl (gS rfl (gS rfl (gS rfl (gS rfl (gS rfl (gS rfl (gS rfl (gS rfl g0))))))))))))) rfl)) ?_
                                                                            refine l_eff (e_callV cal_264 (aC (et (gS rfl g0) rfl) (aC (et g0 rfl) (aC (v := .int .i64 ((6 : Nat) : Int)) rfl aN))) (m_arg hE hs hp (by first | exact hpf | rfl) _ (by decide))) (fun v131 w131 h131 => ?_)
                                                                            obtain ⟨rfl, u131⟩ := h131
                                                                            replace hE := hE.up u131
                                                                            replace U := U.tr u131
                                                                            refine l_eff (e_callV cal_362 (aC (et (gS rfl (gS rfl (gS rfl (gS rfl (gS rfl (gS rfl (gS rfl (gS rfl (gS rfl g0))))))))) rfl) (aC (et (gS rfl (gS rfl (gS rfl (gS rfl (gS rfl (gS rfl g0)))))) rfl) (aC (et (gS rfl (gS rfl (gS rfl g0))) rfl) (aC (et g0 rfl) aN)))) (mach_reach2 _ _ _ _ _ (by first | exact argN_lt hB _ | exact hB.value | assumption | decide | exact Nat.mod_lt _ (by decide)) (by first | exact argN_lt hB _ | exact hB.value | assumption | decide | exact Nat.mod_lt _ (by decide)) (by first | exact argN_lt hB _ | exact hB.value | assumption | decide | exact Nat.mod_lt _ (by decide)) (by first | exact argN_lt hB _ | exact hB.value | assumption | decide | exact Nat.mod_lt _ (by decide)))) (fun v132 w132 h132 => ?_)
                                                                            obtain ⟨rfl, u132⟩ := h132
                                                                            replace hE := hE.up u132
                                                                            replace U := U.tr u132
                                                                            refine l_step (y_ext (et g0 rfl) rfl) ?_
                                                                            refine l_step (y_ext (et (gS rfl g0) rfl) rfl) ?_
                                                                            exact (by
                                                                              refine l_step (y_assignV (et (gS rfl g0) rfl)) ?_
                                                                              refine l_step (y_assignV (et (gS rfl g0) rfl)) ?_
                                                                              refine l_nil ?_
                                                                              refine hK127 _ _ ?_
                                                                              refine fg2 6 7 (gS rfl g0) g0 (fun g => ?_)
                                                                              refine c_ret ?_
                                                                              refine hQ4 _ _ _ (in_ret ?_)
                                                                              repeat with_reducible refine then_ret ?_
                                                                              refine ret2 rfl (res_tmp (et (gS rfl g0) rfl)) (res_tmp (et g0 rfl)) ?_
                                                                              refine ⟨?_, U⟩
                                                                              have e1 := show rcN f.stack q = _ by unfold rcN; rw [if_neg (by omega), if_neg (by omega), if_neg (by omega), if_neg (by omega), if_neg (by omega), if_neg (by omega), if_neg (by omega), if_pos (by omega)]
                                                                              have e2 := show rbN f.stack q = _ by unfold rbN; rw [if_neg (by omega), if_neg (by omega), if_neg (by omega), if_neg (by omega), if_neg (by omega), if_neg (by omega), if_neg (by omega), if_pos (by omega)]
                                                                              rw [e1, e2]
                                                                              rfl))
                                                                        · skip
                                                                          
                                                                          have hq19 : q ≠ 241 := by have := of_decide_eq_false cB19; omega
                                                                          refine c_region ?_
                                                                          refine l_step (y_eql (et (gS rfl g0) rfl) rfl) ?_
                                                                          refine l_step (y_assignV (et g0 rfl)) ?_
                                                                          refine l_nil ?_
                                                                          refine hK123 _ _ ?_
                                                                          refine fg4 1 0 8 99 (gS rfl (gS rfl (gS rfl (gS rfl (gS rfl g0))))) (gS rfl (gS rfl (gS rfl (gS rfl g0)))) (gS rfl (gS rfl (gS rfl g0))) g0 (fun g => ?_)
                                                                          refine c_cond (et g0 rfl) (fun cB20 => ?_) (fun cB20 => ?_)
                                                                          · skip
                                                                            
                                                                            have hq20 : q = 242 := by have := of_decide_eq_true cB20; omega
                                                                            refine c_seq (fun K134 hK134 => ?_)
                                                                            exact (by
                                                                              refine c_region ?_
                                                                              refine l_step (y_moveV (et (gS rfl (gS rfl g0)) rfl)) ?_
                                                                              refine l_step (y_moveV (et (gS rfl (gS rfl (gS rfl (gS rfl g0)))) rfl)) ?_
                                                                              refine l_eff (e_callV cal_264 (aC (et (gS rfl g0) rfl) (aC (et g0 rfl) (aC (v := .int .i64 ((3 : Nat) : Int)) rfl aN))) (m_arg hE hs hp (by first | exact hpf | rfl) _ (by decide))) (fun v135 w135 h135 => ?_)
                                                                              obtain ⟨rfl, u135⟩ := h135
                                                                              replace hE := hE.up u135
                                                                              replace U := U.tr u135
                                                                              refine l_step (y_moveV (et (gS rfl (gS rfl (gS rfl (gS rfl (gS rfl g0))))) rfl)) ?_
                                                                              refine l_step (y_moveV (et (gS rfl (gS rfl (gS rfl (gS rfl (gS rfl (gS rfl (gS rfl g0))))))) rfl)) ?_
                                                                              refine l_eff (e_callV cal_264 (aC (et (gS rfl g0) rfl) (aC (et g0 rfl) (aC (v := .int .i64 ((4 : Nat) : Int)) rfl aN))) (m_arg hE hs hp (by first | exact hpf | rfl) _ (by decide))) (fun v136 w136 h136 => ?_)
                                                                              obtain ⟨rfl, u136⟩ := h136
                                                                              replace hE := hE.up u136
                                                                              replace U := U.tr u136
                                                                              refine l_step (y_moveV (et (gS rfl (gS rfl (gS rfl (gS rfl (gS rfl (gS rfl (gS rfl (gS rfl g0)))))))) rfl)) ?_
                                                                              refine l_step (y_moveV (et (gS rfl (gS rfl (gS rfl (gS rfl (gS rfl (gS rfl (gS rfl (gS rfl (gS rfl (gS rfl g0)))))))))) rfl)) ?_
                                                                              refine l_eff (e_callV cal_264 (aC (et (gS rfl g0) rfl) (aC (et g0 rfl) (aC (v := .int .i64 ((5 : Nat) : Int)) rfl aN))) (m_arg hE hs hp (by first | exact hpf | rfl) _ (by decide))) (fun v137 w137 h137 => ?_)
                                                                              obtain ⟨rfl, u137⟩ := h137
                                                                              replace hE := hE.up u137
                                                                              replace U := U.tr u137
                                                                              refine l_step (y_moveV (et (gS rfl (gS rfl (gS rfl (gS rfl (gS rfl (gS rfl (gS rfl (gS rfl (gS rfl (gS rfl (gS rfl g0))))))))))) rfl)) ?_
                                                                              refine l_step (y_moveV (et (gS rfl (gS rfl (gS rfl (gS rfl (gS rfl (gS rfl (gS rfl (gS rfl (gS rfl (gS rfl (gS rfl (gS rfl (gS rfl g0))))))))))))) rfl)) ?_
                                                                              refine l_eff (e_callV cal_264 (aC (et (gS rfl g0) rfl) (aC (et g0 rfl) (aC (v := .int .i64 ((6 : Nat) : Int)) rfl aN))) (m_arg hE hs hp (by first | exact hpf | rfl) _ (by decide))) (fun v138 w138 h138 => ?_)
                                                                              obtain ⟨rfl, u138⟩ := h138
                                                                              replace hE := hE.up u138
                                                                              replace U := U.tr u138
                                                                              refine l_eff (e_callV cal_362 (aC (et (gS rfl (gS rfl (gS rfl (gS rfl (gS rfl (gS rfl (gS rfl (gS rfl (gS rfl g0))))))))) rfl) (aC (et (gS rfl (gS rfl (gS rfl (gS rfl (gS rfl (gS rfl g0)))))) rfl) (aC (et (gS rfl (gS rfl (gS rfl g0))) rfl) (aC (et g0 rfl) aN)))) (mach_reach2 _ _ _ _ _ (by first | exact argN_lt hB _ | exact hB.value | assumption | decide | exact Nat.mod_lt _ (by decide)) (by first | exact argN_lt hB _ | exact hB.value | assumption | decide | exact Nat.mod_lt _ (by decide)) (by first | exact argN_lt hB _ | exact hB.value | assumption | decide | exact Nat.mod_lt _ (by decide)) (by first | exact argN_lt hB _ | exact hB.value | assumption | decide | exact Nat.mod_lt _ (by decide)))) (fun v139 w139 h139 => ?_)
                                                                              obtain ⟨rfl, u139⟩ := h139
                                                                              replace hE := hE.up u139
                                                                              replace U := U.tr u139
                                                                              refine l_step (y_ext (et g0 rfl) rfl) ?_
                                                                              refine l_step (y_ext (et (gS rfl g0) rfl) rfl) ?_
                                                                              exact (by
                                                                                refine l_step (y_assignV (et (gS rfl g0) rfl)) ?_
                                                                                refine l_step (y_assignV (et (gS rfl g0) rfl)) ?_
                                                                                refine l_nil ?_
                                                                                refine hK134 _ _ ?_
                                                                                refine fg2 6 7 (gS rfl g0) g0 (fun g => ?_)
                                                                                refine c_ret ?_
                                                                                refine hQ4 _ _ _ (in_ret ?_)
                                                                                repeat with_reducible refine then_ret ?_
                                                                                refine ret2 rfl (res_tmp (et (gS rfl g0) rfl)) (res_tmp (et g0 rfl)) ?_
                                                                                refine ⟨?_, U⟩
                                                                                have e1 := show rcN f.stack q = _ by unfold rcN; rw [if_neg (by omega), if_neg (by omega), if_neg (by omega), if_neg (by omega), if_neg (by omega), if_neg (by omega), if_neg (by omega), if_pos (by omega)]
                                                                                have e2 := show rbN f.stack q = _ by unfold rbN; rw [if_neg (by omega), if_neg (by omega), if_neg (by omega), if_neg (by omega), if_neg (by omega), if_neg (by omega), if_neg (by omega), if_pos (by omega)]
                                                                                rw [e1, e2]
                                                                                rfl))
                                                                          · skip
                                                                            
                                                                            have hq20 : q ≠ 242 := by have := of_decide_eq_false cB20; omega
                                                                            refine c_seq (fun K140 hK140 => ?_)
                                                                            refine c_seq (fun K141 hK141 => ?_)
                                                                            exact (by
                                                                              refine c_region ?_
                                                                              refine l_step (y_eql (et (gS rfl g0) rfl) rfl) ?_
                                                                              refine l_step (y_assignV (et g0 rfl)) ?_
                                                                              refine l_nil ?_
                                                                              refine hK141 _ _ ?_
                                                                              refine fg4 1 0 8 117 (gS rfl (gS rfl (gS rfl (gS rfl (gS rfl g0))))) (gS rfl (gS rfl (gS rfl (gS rfl g0)))) (gS rfl (gS rfl (gS rfl g0))) g0 (fun g => ?_)
                                                                              refine c_cond (et g0 rfl) (fun cB21 => ?_) (fun cB21 => ?_)
                                                                              · skip
                                                                                
                                                                                have hq21 : q = 244 := by have := of_decide_eq_true cB21; omega
                                                                                refine c_skip ?_
                                                                                refine hK140 _ _ ?_
                                                                                refine fg3 1 0 117 (gS rfl (gS rfl (gS rfl g0))) (gS rfl (gS rfl g0)) g0 (fun g => ?_)
                                                                                refine c_true (et g0 rfl) (by assumption) ?_
                                                                                refine c_seq (fun K144 hK144 => ?_)
                                                                                exact (by
                                                                                  refine c_region ?_
                                                                                  refine l_step (y_moveV (et (gS rfl g0) rfl)) ?_
                                                                                  refine l_step (y_moveV (et (gS rfl (gS rfl (gS rfl g0))) rfl)) ?_
                                                                                  refine l_eff (e_callV cal_264 (aC (et (gS rfl g0) rfl) (aC (et g0 rfl) (aC (v := .int .i64 ((2 : Nat) : Int)) rfl aN))) (m_arg hE hs hp (by first | exact hpf | rfl) _ (by decide))) (fun v145 w145 h145 => ?_)
                                                                                  obtain ⟨rfl, u145⟩ := h145
                                                                                  replace hE := hE.up u145
                                                                                  replace U := U.tr u145
                                                                                  refine l_step (y_moveV (et (gS rfl (gS rfl (gS rfl (gS rfl g0)))) rfl)) ?_
                                                                                  refine l_step (y_moveV (et (gS rfl (gS rfl (gS rfl (gS rfl (gS rfl (gS rfl g0)))))) rfl)) ?_
                                                                                  refine l_eff (e_callV cal_264 (aC (et (gS rfl g0) rfl) (aC (et g0 rfl) (aC (v := .int .i64 ((3 : Nat) : Int)) rfl aN))) (m_arg hE hs hp (by first | exact hpf | rfl) _ (by decide))) (fun v146 w146 h146 => ?_)
                                                                                  obtain ⟨rfl, u146⟩ := h146
                                                                                  replace hE := hE.up u146
                                                                                  replace U := U.tr u146
                                                                                  refine l_step (y_moveV (et (gS rfl (gS rfl (gS rfl (gS rfl (gS rfl (gS rfl (gS rfl g0))))))) rfl)) ?_
                                                                                  refine l_step (y_moveV (et (gS rfl (gS rfl (gS rfl (gS rfl (gS rfl (gS rfl (gS rfl (gS rfl (gS rfl g0))))))))) rfl)) ?_
                                                                                  refine l_eff (e_callV cal_264 (aC (et (gS rfl g0) rfl) (aC (et g0 rfl) (aC (v := .int .i64 ((4 : Nat) : Int)) rfl aN))) (m_arg hE hs hp (by first | exact hpf | rfl) _ (by decide))) (fun v147 w147 h147 => ?_)
                                                                                  obtain ⟨rfl, u147⟩ := h147
                                                                                  replace hE := hE.up u147
                                                                                  replace U := U.tr u147
                                                                                  refine l_step (y_moveV (et (gS rfl (gS rfl (gS rfl (gS rfl (gS rfl (gS rfl (gS rfl (gS rfl (gS rfl (gS rfl g0)))))))))) rfl)) ?_
                                                                                  refine l_step (y_moveV (et (gS rfl (gS rfl (gS rfl (gS rfl (gS rfl (gS rfl (gS rfl (gS rfl (gS rfl (gS rfl (gS rfl (gS rfl g0)))))))))))) rfl)) ?_
                                                                                  refine l_eff (e_callV cal_264 (aC (et (gS rfl g0) rfl) (aC (et g0 rfl) (aC (v := .int .i64 ((5 : Nat) : Int)) rfl aN))) (m_arg hE hs hp (by first | exact hpf | rfl) _ (by decide))) (fun v148 w148 h148 => ?_)
                                                                                  obtain ⟨rfl, u148⟩ := h148
                                                                                  replace hE := hE.up u148
                                                                                  replace U := U.tr u148
                                                                                  refine l_eff (e_callV cal_362 (aC (et (gS rfl (gS rfl (gS rfl (gS rfl (gS rfl (gS rfl (gS rfl (gS rfl (gS rfl g0))))))))) rfl) (aC (et (gS rfl (gS rfl (gS rfl (gS rfl (gS rfl (gS rfl g0)))))) rfl) (aC (et (gS rfl (gS rfl (gS rfl g0))) rfl) (aC (et g0 rfl) aN)))) (mach_reach2 _ _ _ _ _ (by first | exact argN_lt hB _ | exact hB.value | assumption | decide | exact Nat.mod_lt _ (by decide)) (by first | exact argN_lt hB _ | exact hB.value | assumption | decide | exact Nat.mod_lt _ (by decide)) (by first | exact argN_lt hB _ | exact hB.value | assumption | decide | exact Nat.mod_lt _ (by decide)) (by first | exact argN_lt hB _ | exact hB.value | assumption | decide | exact Nat.mod_lt _ (by decide)))) (fun v149 w149 h149 => ?_)
                                                                                  obtain ⟨rfl, u149⟩ := h149
                                                                                  replace hE := hE.up u149
                                                                                  replace U := U.tr u149
                                                                                  refine l_step (y_ext (et g0 rfl) rfl) ?_
                                                                                  refine l_step (y_ext (et (gS rfl g0) rfl) rfl) ?_
                                                                                  exact (by
                                                                                    refine l_step (y_assignV (et (gS rfl g0) rfl)) ?_
                                                                                    refine l_step (y_assignV (et (gS rfl g0) rfl)) ?_
                                                                                    refine l_nil ?_
                                                                                    refine hK144 _ _ ?_
                                                                                    refine fg2 6 7 (gS rfl g0) g0 (fun g => ?_)
                                                                                    refine c_ret ?_
                                                                                    refine hQ4 _ _ _ (in_ret ?_)
                                                                                    repeat with_reducible refine then_ret ?_
                                                                                    refine ret2 rfl (res_tmp (et (gS rfl g0) rfl)) (res_tmp (et g0 rfl)) ?_
                                                                                    refine ⟨?_, U⟩
                                                                                    have e1 := show rcN f.stack q = _ by unfold rcN; rw [if_neg (by omega), if_neg (by omega), if_neg (by omega), if_neg (by omega), if_neg (by omega), if_neg (by omega), if_neg (by omega), if_neg (by omega), if_pos (by omega)]
                                                                                    have e2 := show rbN f.stack q = _ by unfold rbN; rw [if_neg (by omega), if_neg (by omega), if_neg (by omega), if_neg (by omega), if_neg (by omega), if_neg (by omega), if_neg (by omega), if_neg (by omega), if_pos (by omega)]
                                                                                    rw [e1, e2]
                                                                                    rfl))
                                                                              · skip
                                                                                
                                                                                have hq21 : q ≠ 244 := by have := of_decide_eq_false cB21; omega
                                                                                refine c_region ?_
                                                                                refine l_step (y_eql (et (gS rfl g0) rfl) rfl) ?_
                                                                                refine l_step (y_assignV (et g0 rfl)) ?_
                                                                                refine l_nil ?_
                                                                                refine hK140 _ _ ?_
                                                                                refine fg3 1 0 117 (gS rfl (gS rfl (gS rfl (gS rfl (gS rfl g0))))) (gS rfl (gS rfl (gS rfl (gS rfl g0)))) g0 (fun g => ?_)
                                                                                refine c_cond (et g0 rfl) (fun cB22 => ?_) (fun cB22 => ?_)
                                                                                · skip
                                                                                  
                                                                                  have hq22 : q = 250 := by have := of_decide_eq_true cB22; omega
                                                                                  refine c_seq (fun K151 hK151 => ?_)
                                                                                  exact (by
                                                                                    refine c_region ?_
                                                                                    refine l_step (y_moveV (et (gS rfl g0) rfl)) ?_
                                                                                    refine l_step (y_moveV (et (gS rfl (gS rfl (gS rfl g0))) rfl)) ?_
                                                                                    refine l_eff (e_callV cal_264 (aC (et (gS rfl g0) rfl) (aC (et g0 rfl) (aC (v := .int .i64 ((2 : Nat) : Int)) rfl aN))) (m_arg hE hs hp (by first | exact hpf | rfl) _ (by decide))) (fun v152 w152 h152 => ?_)
                                                                                    obtain ⟨rfl, u152⟩ := h152
                                                                                    replace hE := hE.up u152
                                                                                    replace U := U.tr u152
                                                                                    refine l_step (y_moveV (et (gS rfl (gS rfl (gS rfl (gS rfl g0)))) rfl)) ?_
                                                                                    refine l_step (y_moveV (et (gS rfl (gS rfl (gS rfl (gS rfl (gS rfl (gS rfl g0)))))) rfl)) ?_
                                                                                    refine l_eff (e_callV cal_264 (aC (et (gS rfl g0) rfl) (aC (et g0 rfl) (aC (v := .int .i64 ((3 : Nat) : Int)) rfl aN))) (m_arg hE hs hp (by first | exact hpf | rfl) _ (by decide))) (fun v153 w153 h153 => ?_)
                                                                                    obtain ⟨rfl, u153⟩ := h153
                                                                                    replace hE := hE.up u153
                                                                                    replace U := U.tr u153
                                                                                    refine l_step (y_moveV (et (gS rfl (gS rfl (gS rfl (gS rfl (gS rfl (gS rfl (gS rfl g0))))))) rfl)) ?_
                                                                                    refine l_step (y_moveV (et (gS rfl (gS rfl (gS rfl (gS rfl (gS rfl (gS rfl (gS rfl (gS rfl (gS rfl g0))))))))) rfl)) ?_
                                                                                    refine l_eff (e_callV cal_264 (aC (et (gS rfl g0) rfl) (aC (et g0 rfl) (aC (v := .int .i64 ((4 : Nat) : Int)) rfl aN))) (m_arg hE hs hp (by first | exact hpf | rfl) _ (by decide))) (fun v154 w154 h154 => ?_)
                                                                                    obtain ⟨rfl, u154⟩ := h154
                                                                                    replace hE := hE.up u154
                                                                                    replace U := U.tr u154
                                                                                    refine l_step (y_moveV (et (gS rfl (gS rfl (gS rfl (gS rfl (gS rfl (gS rfl (gS rfl (gS rfl (gS rfl (gS rfl g0)))))))))) rfl)) ?_
                                                                                    refine l_step (y_moveV (et (gS rfl (gS rfl (gS rfl (gS rfl (gS rfl (gS rfl (gS rfl (gS rfl (gS rfl (gS rfl (gS rfl (gS rfl g0)))))))))))) rfl)) ?_
                                                                                    refine l_eff (e_callV cal_264 (aC (et (gS rfl g0) rfl) (aC (et g0 rfl) (aC (v := .int .i64 ((5 : Nat) : Int)) rfl aN))) (m_arg hE hs hp (by first | exact hpf | rfl) _ (by decide))) (fun v155 w155 h155 => ?_)
                                                                                    obtain ⟨rfl, u155⟩ := h155
                                                                                    replace hE := hE.up u155
                                                                                    replace U := U.tr u155
                                                                                    refine l_eff (e_callV cal_362 (aC (et (gS rfl (gS rfl (gS rfl (gS rfl (gS rfl (gS rfl (gS rfl (gS rfl (gS rfl g0))))))))) rfl) (aC (et (gS rfl (gS rfl (gS rfl (gS rfl (gS rfl (gS rfl g0)))))) rfl) (aC (et (gS rfl (gS rfl (gS rfl g0))) rfl) (aC (et g0 rfl) aN)))) (mach_reach2 _ _ _ _ _ (by first | exact argN_lt hB _ | exact hB.value | assumption | decide | exact Nat.mod_lt _ (by decide)) (by first | exact argN_lt hB _ | exact hB.value | assumption | decide | exact Nat.mod_lt _ (by decide)) (by first | exact argN_lt hB _ | exact hB.value | assumption | decide | exact Nat.mod_lt _ (by decide)) (by first | exact argN_lt hB _ | exact hB.value | assumption | decide | exact Nat.mod_lt _ (by decide)))) (fun v156 w156 h156 => ?_)
                                                                                    obtain ⟨rfl, u156⟩ := h156
                                                                                    replace hE := hE.up u156
                                                                                    replace U := U.tr u156
                                                                                    refine l_step (y_ext (et g0 rfl) rfl) ?_
                                                                                    refine l_step (y_ext (et (gS rfl g0) rfl) rfl) ?_
                                                                                    exact (by
                                                                                      refine l_step (y_assignV (et (gS rfl g0) rfl)) ?_
                                                                                      refine l_step (y_assignV (et (gS rfl g0) rfl)) ?_
                                                                                      refine l_nil ?_
                                                                                      refine hK151 _ _ ?_
                                                                                      refine fg2 6 7 (gS rfl g0) g0 (fun g => ?_)
                                                                                      refine c_ret ?_
                                                                                      refine hQ4 _ _ _ (in_ret ?_)
                                                                                      repeat with_reducible refine then_ret ?_
                                                                                      refine ret2 rfl (res_tmp (et (gS rfl g0) rfl)) (res_tmp (et g0 rfl)) ?_
                                                                                      refine ⟨?_, U⟩
                                                                                      have e1 := show rcN f.stack q = _ by unfold rcN; rw [if_neg (by omega), if_neg (by omega), if_neg (by omega), if_neg (by omega), if_neg (by omega), if_neg (by omega), if_neg (by omega), if_neg (by omega), if_pos (by omega)]
                                                                                      have e2 := show rbN f.stack q = _ by unfold rbN; rw [if_neg (by omega), if_neg (by omega), if_neg (by omega), if_neg (by omega), if_neg (by omega), if_neg (by omega), if_neg (by omega), if_neg (by omega), if_pos (by omega)]
                                                                                      rw [e1, e2]
                                                                                      rfl))
                                                                                · skip
                                                                                  
                                                                                  have hq22 : q ≠ 250 := by have := of_decide_eq_false cB22; omega
                                                                                  refine c_skip ?_
                                                                                  refine hQ4 _ _ _ (in_normal ?_)
                                                                                  refine hK2 _ _ ?_
                                                                                  refine fg0 (fun g => ?_)
                                                                                  refine c_seq (fun K157 hK157 => ?_)
                                                                                  exact (by
                                                                                    refine c_region ?_
                                                                                    refine l_step y_assignC ?_
                                                                                    refine l_step y_assignC ?_
                                                                                    refine l_nil ?_
                                                                                    refine hK157 _ _ ?_
                                                                                    refine c_ret ?_
                                                                                    repeat with_reducible refine then_ret ?_
                                                                                    refine ret2 rfl (res_tmp (et (gS rfl g0) rfl)) (res_tmp (et g0 rfl)) ?_
                                                                                    refine ⟨?_, U⟩
                                                                                    have e1 := show rcN f.stack q = _ by unfold rcN; rw [if_neg (by omega), if_neg (by omega), if_neg (by omega), if_neg (by omega), if_neg (by omega), if_neg (by omega), if_neg (by omega), if_neg (by omega), if_neg (by omega)]
                                                                                    have e2 := show rbN f.stack q = _ by unfold rbN; rw [if_neg (by omega), if_neg (by omega), if_neg (by omega), if_neg (by omega), if_neg (by omega), if_neg (by omega), if_neg (by omega), if_neg (by omega), if_neg (by omega)]
                                                                                    rw [e1, e2]
                                                                                    rfl)))))))))))))))))))
theorem m_destroyCost {w : World} {H : Store} {col : Nat → Nat} {bc : Nat} {cs : Array Value} {V : EV} {s : YSt} {sn : List Nat} {sv : List AW} {ms : List (List Nat)} {c : Nat} {low : List YF} {f : YF} (hE : EX w H col bc cs V s sn sv ms c) (hs : s.frames = low ++ [f]) (hp : s.phase = 1) {pf : Nat} (hpf : pf = 1803 + 65 * low.length) :
    Ret 369 [.pointer (some ⟨bc, 0, none⟩), .pointer (some ⟨bc, pf, none⟩)] w (fun v w' => v = .int .u64 (dstC s f : Nat) ∧ Up w w') := by
  obtain ⟨n9, hn9, hR⟩ := hE.topF hs
  have hB := hE.fbT hs
  have h6 := hE.six hs
  have htop := hE.cTop hs
  have hphs := hE.cPh hp
  have hbp := hB.pc
  have hbs := hB.stk
  have hbg := hB.gas
  have hbc9 := hB.code
  have hnw := hE.vl.new
  have hfz := hE.vl.fz
  have hcC := hE.vl.colC
  have hbc0 := hE.vl.kC.lt
  refine enter (n := 42) Hvaa.func369 rfl rfl (Nat.le_of_ble_eq_true rfl) ?_
  have U := Up.refl w
  refine c_seq (fun K1 hK1 => ?_)
  exact (by
    refine c_region ?_
    refine l_step y_assignC ?_
    refine l_nil ?_
    refine hK1 _ _ ?_
    refine fg2 1 0 (gS rfl (gS rfl g0)) (gS rfl g0) (fun g => ?_)
    refine c_seq (fun K2 hK2 => ?_)
    exact (by
      refine c_region ?_
      refine l_step (y_moveV (et g0 rfl)) ?_
      refine l_step (y_moveV (et (gS rfl (gS rfl g0)) rfl)) ?_
      refine l_eff (e_callV cal_264 (aC (et (gS rfl g0) rfl) (aC (et g0 rfl) (aC (v := .int .i64 ((0 : Nat) : Int)) rfl aN))) (m_arg hE hs hp (by first | exact hpf | rfl) _ (by decide))) (fun v3 w3 h3 => ?_)
      obtain ⟨rfl, u3⟩ := h3
      replace hE := hE.up u3
      replace U := U.tr u3
      refine l_eff (e_callV cal_293 (aC (et g0 rfl) aN) (mach_addrOf _ _ (by first | exact argN_lt hB _ | exact hB.value | assumption | decide | exact Nat.mod_lt _ (by decide)))) (fun v4 w4 h4 => ?_)
      obtain ⟨rfl, u4⟩ := h4
      replace hE := hE.up u4
      replace U := U.tr u4
      refine l_eff (e_alloc zr_25) (fun v5 w5 h5 => ?_)
      obtain ⟨b5, rfl, n5⟩ := h5
      have f5 : w.heap.size ≤ b5 := Nat.le_trans U.size n5.fresh
      replace hE := hE.up n5.up
      replace U := U.tr n5.up
      have k5 := n5.blk
      refine l_effN (e_store sz_25 (et g0 rfl) (cellsV (et (gS rfl g0) rfl) rfl) (by rw [length_bL, length_be]) (by exact one_bL _) k5 (by exact Nat.le_of_ble_eq_true rfl)) (fun v6 w6 h6 => ?_)
      obtain ⟨rfl, x6⟩ := h6
      replace hE := hE.ch x6.ch (by first | omega | (intro b hb; first | (subst hb; exact ⟨hnw _ (by omega), fun hh => by have := hfz.lt hh; omega⟩) | (rcases hb with hb | hb <;> (subst hb; exact ⟨hnw _ (by omega), fun hh => by have := hfz.lt hh; omega⟩))))
      replace k5 := x6.blk.full (by rw [length_bL, length_be]; rfl)
      replace U := U.st x6 f5
      refine l_nil ?_
      refine hK2 _ _ ?_
      refine fg3 1 0 5 (gS rfl (gS rfl (gS rfl (gS rfl (gS rfl (gS rfl g0)))))) (gS rfl (gS rfl (gS rfl (gS rfl (gS rfl g0))))) g0 (fun g => ?_)
      refine c_seq (fun K7 hK7 => ?_)
      exact (by
        refine c_region ?_
        refine l_step y_assignC ?_
        refine l_nil ?_
        refine hK7 _ _ ?_
        refine c_seq (fun K8 hK8 => ?_)
        refine c_seq (fun K9 hK9 => ?_)
        exact (by
          refine c_draw Up 7 [(0, true), (1, true), (2, true), (3, true), (4, true), (5, false), (6, true)] (by kernel_rfl) (fun w10 hu => ⟨Up.refl _, ?_⟩)
          replace k5 := k5.up hu
          replace hE := hE.up hu
          replace U := U.tr hu
          have SU := Up.refl w10
          refine p_step (by exact rfl) (y_moveV (et (gS rfl (gS rfl g0)) rfl)) ?_
          refine p_step (by exact rfl) (y_nil (et g0 rfl)) ?_
          refine p_step (by exact rfl) (y_fld fld_75_0 (et g0 rfl)) ?_
          refine p_step (by exact rfl) (y_load1 one_59 (et g0 rfl) (atS (hE.vl.c1 hE.lx.pS rfl))) ?_
          refine p_step (by exact rfl) (y_loadB agg_25 sz_25 (et (gS rfl (gS rfl (gS rfl (gS rfl (gS rfl g0))))) rfl) (by rw [List.size_toArray, length_bL, length_be]) (atSB k5)) ?_
          refine p_eff (by exact rfl) (e_callV cal_172 (aC (et (gS rfl g0) rfl) (aC (et g0 rfl) aN)) (v_isWarmAcct hE.vl hE.ok _ (by first | exact Nat.mod_lt _ A160_pos | exact hB.self | exact hB.caller | assumption))) (fun v11 w11 h11 => ?_)
          obtain ⟨rfl, u11⟩ := h11
          replace k5 := k5.up u11
          replace hE := hE.up u11
          replace U := U.tr u11
          refine ⟨.inr (SU.tr u11), ?_⟩
          replace SU := SU.tr u11
          refine p_step (by exact rfl) (y_not (et g0 rfl)) ?_
          refine p_nil ?_
          refine hK9 _ _ ?_
          refine fg5 1 0 5 6 18 (gS rfl (gS rfl (gS rfl (gS rfl (gS rfl (gS rfl (gS rfl (gS rfl (gS rfl (gS rfl g0)))))))))) (gS rfl (gS rfl (gS rfl (gS rfl (gS rfl (gS rfl (gS rfl (gS rfl (gS rfl g0))))))))) (gS rfl (gS rfl (gS rfl (gS rfl (gS rfl (gS rfl (gS rfl (gS rfl g0)))))))) (gS rfl (gS rfl (gS rfl (gS rfl (gS rfl (gS rfl (gS rfl g0))))))) g0 (fun g => ?_)
          refine c_cond (et g0 rfl) (fun cB1 => ?_) (fun cB1 => ?_)
          · skip
            
            rw [hE.wa] at cB1
            have h1 : ¬ argN f.stack 0 % A160 ∈ s.now.warmA := by simpa using cB1
            exact (by
              refine c_region ?_
              refine l_step y_assignC ?_
              refine l_nil ?_
              refine hK8 _ _ ?_
              refine fg4 1 0 5 6 (gS rfl (gS rfl (gS rfl (gS rfl (gS rfl g0))))) (gS rfl (gS rfl (gS rfl (gS rfl g0)))) (gS rfl (gS rfl (gS rfl g0))) g0 (fun g => ?_)
              refine c_seq (fun K13 hK13 => ?_)
              refine c_seq (fun K14 hK14 => ?_)
              exact (by
                refine fgv4 0 1 5 6 (gS rfl (gS rfl g0)) (gS rfl (gS rfl (gS rfl g0))) (gS rfl g0) g0 (fun g z0 z1 z5 z6 e0 e1 e5 e6 => ?_)
                refine c_drawJ (fun s_ w_ => ∃ (g : Nat → Value) (b16 : Nat), s_ = (upd (upd (upd (upd g 0 z0) 5 z5) 6 z6) 7 (.pointer (some ⟨b16, 0, none⟩))) ∧ Ch (fun _ => False) w11 w_ ∧ w11.heap.size ≤ b16 ∧ Blk w_ b16 ((wL ((absV V).bal f.self)).toArray)) Up 10 (.pure 0 (.pure 1 (.pure 2 (.pure 3 (.pure 4 (.pure 5 (.pure 6 (.pure 7 (.two 8 (.eff 9 (.eff 10 .fin)) 9 (.eff 8 (.eff 10 .fin))))))))))) (by kernel_rfl) (fun w17 hu => ⟨Up.refl _, ?_⟩) ?_
                · skip
                  subst e0 e1 e5 e6
                  replace k5 := k5.up hu
                  replace hE := hE.up hu
                  replace U := U.tr hu
                  have SU := Up.refl w17
                  have V15 : Ch (fun _ => False) w11 w17 := hu
                  refine t_step (by exact rfl) (y_moveV (et (gS rfl (gS rfl (gS rfl g0))) rfl)) ?_
                  refine t_step (by exact rfl) (y_nil (et g0 rfl)) ?_
                  refine t_step (by exact rfl) (y_fld fld_75_0 (et g0 rfl)) ?_
                  refine t_step (by exact rfl) (y_load1 one_59 (et g0 rfl) (atS (hE.vl.c1 hE.lx.pS rfl))) ?_
                  refine t_step (by exact rfl) (y_moveV (et (gS rfl (gS rfl (gS rfl (gS rfl (gS rfl (gS rfl g0)))))) rfl)) ?_
                  refine t_step (by exact rfl) (y_nil (et g0 rfl)) ?_
                  refine t_step (by exact rfl) (y_fld fld_71_9 (et g0 rfl)) ?_
                  refine t_step (by exact rfl) (y_loadR agg_25 sz_25 (et g0 rfl) (by rw [length_bL, length_be]) (atSR (hE.vl.kC.rowO hR.r2 (by omega)))) ?_
                  refine t_two ?_ ?_
                  · skip
                    refine t_eff (by exact rfl) (e_callV cal_99 (aC (et (gS rfl (gS rfl (gS rfl (gS rfl g0)))) rfl) (aC (et g0 rfl) aN)) (v_balance hE.vl hE.ok _ (by first | exact Nat.mod_lt _ A160_pos | exact hB.self | exact hB.caller | assumption))) (fun v18 w18 h18 => ?_)
                    obtain ⟨rfl, u18⟩ := h18
                    replace k5 := k5.up u18
                    replace hE := hE.up u18
                    replace U := U.tr u18
                    replace V15 := V15.tr u18
                    refine ⟨.inr (SU.tr u18), ?_⟩
                    replace SU := SU.tr u18
                    refine t_one ?_
                    refine t_eff (by exact rfl) (e_alloc zr_65) (fun v19 w19 h19 => ?_)
                    obtain ⟨b19, rfl, n19⟩ := h19
                    have d5_19 : b5 < b19 := Nat.lt_of_lt_of_le k5.lt n19.fresh
                    have f19 : w.heap.size ≤ b19 := Nat.le_trans U.size n19.fresh
                    have fS19 := Nat.le_trans SU.size n19.fresh
                    have fV15_19 := Nat.le_trans V15.size n19.fresh
                    replace k5 := k5.up n19.up
                    replace hE := hE.up n19.up
                    replace U := U.tr n19.up
                    replace V15 := V15.tr n19.up
                    have k19 := n19.blk
                    refine ⟨.inr (SU.tr n19.up), ?_⟩
                    replace SU := SU.tr n19.up
                    refine t_one ?_
                    refine t_effN (by exact rfl) (e_store sz_65 (et g0 rfl) (cellsV (et (gS rfl g0) rfl) rfl) (by first | (simp only [Value.cells, hV, aV, bV, wV, wL, List.size_toArray, length_bL, length_uL, length_be, size_spl, List.length_cons, List.length_nil, List.length_replicate, Nat.zero_add, Nat.reduceAdd, Nat.reduceLeDiff, Nat.le_refl]; done) | rfl) (by first | exact one_bL _ | exact one_uL _ | (intro v hv; simp at hv; subst hv; rfl)) k19 (by first | (simp only [Value.cells, hV, aV, bV, wV, wL, List.size_toArray, length_bL, length_uL, length_be, size_spl, List.length_cons, List.length_nil, List.length_replicate, Nat.zero_add, Nat.reduceAdd, Nat.reduceLeDiff, Nat.le_refl]; done) | exact Nat.le_of_ble_eq_true rfl | simp | omega)) (fun v20 w20 h20 => ?_)
                    obtain ⟨rfl, x20⟩ := h20
                    replace k5 := k5.ch x20.ch (by omega)
                    replace hE := hE.ch x20.ch (by first | omega | (intro b hb; first | (subst hb; exact ⟨hnw _ (by omega), fun hh => by have := hfz.lt hh; omega⟩) | (rcases hb with hb | hb <;> (subst hb; exact ⟨hnw _ (by omega), fun hh => by have := hfz.lt hh; omega⟩))))
                    replace k19 := x20.blk.full (by first | (simp only [Value.cells, hV, aV, bV, wV, wL, List.size_toArray, length_bL, length_uL, length_be, size_spl, List.length_cons, List.length_nil, List.length_replicate, Nat.zero_add, Nat.reduceAdd, Nat.reduceLeDiff, Nat.le_refl]; done) | rfl)
                    replace U := U.st x20 f19
                    replace V15 := V15.st x20 (by omega)
                    refine ⟨.inl rfl, ?_⟩
                    refine tl4 0 5 6 7 (gS rfl (gS rfl (gS rfl (gS rfl (gS rfl (gS rfl (gS rfl (gS rfl (gS rfl (gS rfl (gS rfl (gS rfl (gS rfl g0))))))))))))) (gS rfl (gS rfl (gS rfl (gS rfl (gS rfl (gS rfl (gS rfl (gS rfl (gS rfl (gS rfl (gS rfl g0))))))))))) (gS rfl (gS rfl (gS rfl (gS rfl (gS rfl (gS rfl (gS rfl (gS rfl (gS rfl (gS rfl g0)))))))))) g0 (fun g => ?_)
                    exact ⟨g, _, rfl, V15, Nat.le_trans hu.size fS19, k19⟩
                  · skip
                    refine t_eff (by exact rfl) (e_alloc zr_65) (fun v21 w21 h21 => ?_)
                    obtain ⟨b21, rfl, n21⟩ := h21
                    have d5_21 : b5 < b21 := Nat.lt_of_lt_of_le k5.lt n21.fresh
                    have f21 : w.heap.size ≤ b21 := Nat.le_trans U.size n21.fresh
                    have fS21 := Nat.le_trans SU.size n21.fresh
                    have fV15_21 := Nat.le_trans V15.size n21.fresh
                    replace k5 := k5.up n21.up
                    replace hE := hE.up n21.up
                    replace U := U.tr n21.up
                    replace V15 := V15.tr n21.up
                    have k21 := n21.blk
                    refine ⟨.inr (SU.tr n21.up), ?_⟩
                    replace SU := SU.tr n21.up
                    refine t_one ?_
                    refine t_eff (by exact rfl) (e_callV cal_99 (aC (et (gS rfl (gS rfl (gS rfl (gS rfl (gS rfl g0))))) rfl) (aC (et (gS rfl g0) rfl) aN)) (v_balance hE.vl hE.ok _ (by first | exact Nat.mod_lt _ A160_pos | exact hB.self | exact hB.caller | assumption))) (fun v22 w22 h22 => ?_)
                    obtain ⟨rfl, u22⟩ := h22
                    replace k5 := k5.up u22
                    replace k21 := k21.up u22
                    replace hE := hE.up u22
                    replace U := U.tr u22
                    replace V15 := V15.tr u22
                    refine ⟨.inr (SU.tr u22), ?_⟩
                    replace SU := SU.tr u22
                    refine t_one ?_
                    refine t_effN (by exact rfl) (e_store sz_65 (et (gS rfl g0) rfl) (cellsV (et g0 rfl) rfl) (by first | (simp only [Value.cells, hV, aV, bV, wV, wL, List.size_toArray, length_bL, length_uL, length_be, size_spl, List.length_cons, List.length_nil, List.length_replicate, Nat.zero_add, Nat.reduceAdd, Nat.reduceLeDiff, Nat.le_refl]; done) | rfl) (by first | exact one_bL _ | exact one_uL _ | (intro v hv; simp at hv; subst hv; rfl)) k21 (by first | (simp only [Value.cells, hV, aV, bV, wV, wL, List.size_toArray, length_bL, length_uL, length_be, size_spl, List.length_cons, List.length_nil, List.length_replicate, Nat.zero_add, Nat.reduceAdd, Nat.reduceLeDiff, Nat.le_refl]; done) | exact Nat.le_of_ble_eq_true rfl | simp | omega)) (fun v23 w23 h23 => ?_)
                    obtain ⟨rfl, x23⟩ := h23
                    replace k5 := k5.ch x23.ch (by omega)
                    replace hE := hE.ch x23.ch (by first | omega | (intro b hb; first | (subst hb; exact ⟨hnw _ (by omega), fun hh => by have := hfz.lt hh; omega⟩) | (rcases hb with hb | hb <;> (subst hb; exact ⟨hnw _ (by omega), fun hh => by have := hfz.lt hh; omega⟩))))
                    replace k21 := x23.blk.full (by first | (simp only [Value.cells, hV, aV, bV, wV, wL, List.size_toArray, length_bL, length_uL, length_be, size_spl, List.length_cons, List.length_nil, List.length_replicate, Nat.zero_add, Nat.reduceAdd, Nat.reduceLeDiff, Nat.le_refl]; done) | rfl)
                    replace U := U.st x23 f21
                    replace V15 := V15.st x23 (by omega)
                    refine ⟨.inl rfl, ?_⟩
                    refine tl4 0 5 6 7 (gS rfl (gS rfl (gS rfl (gS rfl (gS rfl (gS rfl (gS rfl (gS rfl (gS rfl (gS rfl (gS rfl (gS rfl (gS rfl g0))))))))))))) (gS rfl (gS rfl (gS rfl (gS rfl (gS rfl (gS rfl (gS rfl (gS rfl (gS rfl (gS rfl (gS rfl g0))))))))))) (gS rfl (gS rfl (gS rfl (gS rfl (gS rfl (gS rfl (gS rfl (gS rfl (gS rfl (gS rfl g0)))))))))) (gS rfl g0) (fun g => ?_)
                    exact ⟨g, _, rfl, V15, Nat.le_trans hu.size fS21, k21⟩
                intro s_ w24 hJ
                obtain ⟨g, b16, rfl, V15, fn16, kn16⟩ := hJ
                subst e0 e1 e5 e6
                have d5_16 : b5 < b16 := Nat.lt_of_lt_of_le k5.lt fn16
                have f16 : w.heap.size ≤ b16 := Nat.le_trans U.size fn16
                replace k5 := k5.up V15
                replace hE := hE.up V15
                replace U := U.tr V15
                have k16 := kn16
                refine hK14 _ _ ?_
                refine c_seq (fun K25 hK25 => ?_)
                exact (by
                  refine c_draw Up 11 [(0, true), (1, false), (2, true), (3, true), (4, true), (5, true), (6, true), (7, true), (8, true), (9, false), (10, true)] (by kernel_rfl) (fun w26 hu => ⟨Up.refl _, ?_⟩)
                  replace k5 := k5.up hu
                  replace k16 := k16.up hu
                  replace hE := hE.up hu
                  replace U := U.tr hu
                  have SU := Up.refl w26
                  have hE_s := hE
                  have k5_s := k5
                  have k16_s := k16
                  refine p_step (by exact rfl) (y_loadB agg_65 sz_65 (et g0 rfl) rfl (atSB k16_s)) ?_
                  refine p_eff (by exact rfl) (e_callV cal_78 (aC (et g0 rfl) aN) (isZero_spec _ _ (hE.balt _))) (fun v27 w27 h27 => ?_)
                  obtain ⟨rfl, u27⟩ := h27
                  replace k5 := k5.up u27
                  replace k16 := k16.up u27
                  replace hE := hE.up u27
                  replace U := U.tr u27
                  refine ⟨.inr (SU.tr u27), ?_⟩
                  replace SU := SU.tr u27
                  refine p_step (by exact rfl) (y_not (et g0 rfl)) ?_
                  refine p_step (by exact rfl) (y_moveV (et g0 rfl)) ?_
                  refine gsplitP (i := 31) g0 (fun q28 => ?_) (fun q28 => ?_)
                  · skip
                    have h2 : (acctAt s.now.accts f.self).bal ≠ 0 := by rw [← hE.bl]; simpa using q28
                    refine p_gstep (j := 3) (t := 31) (by exact rfl) (by exact rfl) (by exact rfl) (et g0 rfl) rfl (y_moveV (et (gS rfl (gS rfl (gS rfl (gS rfl (gS rfl (gS rfl (gS rfl (gS rfl g0)))))))) rfl)) ?_
                    refine p_gstep (j := 3) (t := 31) (by exact rfl) (by exact rfl) (by exact rfl) (et (gS rfl g0) rfl) rfl (y_nil (et g0 rfl)) ?_
                    refine p_gstep (j := 3) (t := 31) (by exact rfl) (by exact rfl) (by exact rfl) (et (gS rfl (gS rfl g0)) rfl) rfl (y_fld fld_75_0 (et g0 rfl)) ?_
                    refine p_gstep (j := 3) (t := 31) (by exact rfl) (by exact rfl) (by exact rfl) (et (gS rfl (gS rfl (gS rfl g0))) rfl) rfl (y_load1 one_59 (et g0 rfl) (atS (hE_s.vl.c1 hE_s.lx.pS rfl))) ?_
                    refine p_gstep (j := 3) (t := 31) (by exact rfl) (by exact rfl) (by exact rfl) (et (gS rfl (gS rfl (gS rfl (gS rfl g0)))) rfl) rfl (y_loadB agg_25 sz_25 (et (gS rfl (gS rfl (gS rfl (gS rfl (gS rfl (gS rfl (gS rfl (gS rfl (gS rfl (gS rfl (gS rfl g0))))))))))) rfl) (by rw [List.size_toArray, length_bL, length_be]) (atSB k5_s)) ?_
                    refine p_geff (j := 3) (t := 31) (by exact rfl) (by exact rfl) (by exact rfl) (et (gS rfl (gS rfl (gS rfl (gS rfl (gS rfl g0))))) rfl) rfl (e_callV cal_295 (aC (et (gS rfl g0) rfl) (aC (et g0 rfl) aN)) (v_isEmpty hE.vl hE.ok _ (by first | exact Nat.mod_lt _ A160_pos | exact hB.self | exact hB.caller | assumption))) (fun v29 w29 h29 => ?_)
                    obtain ⟨rfl, u29⟩ := h29
                    replace k5 := k5.up u29
                    replace k16 := k16.up u29
                    replace hE := hE.up u29
                    replace U := U.tr u29
                    refine ⟨.inr (SU.tr u29), ?_⟩
                    replace SU := SU.tr u29
                    refine p_step (by exact rfl) (y_pickT (et (gS rfl (gS rfl (gS rfl (gS rfl (gS rfl (gS rfl g0)))))) rfl) (et g0 rfl)) ?_
                    refine p_nil ?_
                    refine hK25 _ _ ?_
                    refine fg2 6 38 (gS rfl (gS rfl (gS rfl (gS rfl (gS rfl (gS rfl (gS rfl (gS rfl (gS rfl (gS rfl (gS rfl (gS rfl (gS rfl g0))))))))))))) g0 (fun g => ?_)
                    refine c_cond (et g0 rfl) (fun cB2 => ?_) (fun cB2 => ?_)
                    · skip
                      
                      rw [hE.em] at cB2
                      exact (by
                        refine c_region ?_
                        refine l_step (y_moveV (et (gS rfl g0) rfl)) ?_
                        refine l_step (y_add (et g0 rfl) rfl (wrapU_addN (b := 25000) uk64 ?_)) ?_
                        decide
                        refine l_step (y_assignV (et g0 rfl)) ?_
                        refine l_nil ?_
                        refine hK13 _ _ ?_
                        refine fg1 6 g0 (fun g => ?_)
                        refine c_seq (fun K31 hK31 => ?_)
                        exact (by
                          refine c_region ?_
                          refine l_step (y_moveV (et g0 rfl)) ?_
                          refine l_step (y_assignV (et g0 rfl)) ?_
                          refine l_nil ?_
                          refine hK31 _ _ ?_
                          refine fg1 4 g0 (fun g => ?_)
                          refine c_ret ?_
                          repeat with_reducible refine then_ret ?_
                          refine ret1 rfl (res_tmp (et g0 rfl)) ?_
                          exact ⟨by unfold dstC yT; rw [if_neg h1, if_pos ⟨cB2, h2⟩] <;> rfl, U⟩))
                    · skip
                      
                      rw [hE.em] at cB2
                      refine c_skip ?_
                      refine hK13 _ _ ?_
                      refine fg1 6 (gS rfl g0) (fun g => ?_)
                      refine c_seq (fun K32 hK32 => ?_)
                      exact (by
                        refine c_region ?_
                        refine l_step (y_moveV (et g0 rfl)) ?_
                        refine l_step (y_assignV (et g0 rfl)) ?_
                        refine l_nil ?_
                        refine hK32 _ _ ?_
                        refine fg1 4 g0 (fun g => ?_)
                        refine c_ret ?_
                        repeat with_reducible refine then_ret ?_
                        refine ret1 rfl (res_tmp (et g0 rfl)) ?_
                        exact ⟨by unfold dstC yT; rw [if_neg h1, if_neg (fun h9 => by rw [cB2] at h9; exact Bool.false_ne_true h9.1)] <;> rfl, U⟩)
                  · skip
                    have h2 : (acctAt s.now.accts f.self).bal = 0 := by rw [← hE.bl]; simpa using q28
                    refine p_gskip (j := 3) (t := 31) (by exact rfl) (by exact rfl) (by exact rfl) (et g0 rfl) rfl rfl ?_
                    refine p_gskip (j := 3) (t := 31) (by exact rfl) (by exact rfl) (by exact rfl) (et (gS rfl g0) rfl) rfl rfl ?_
                    refine p_gskip (j := 3) (t := 31) (by exact rfl) (by exact rfl) (by exact rfl) (et (gS rfl (gS rfl g0)) rfl) rfl rfl ?_
                    refine p_gskip (j := 3) (t := 31) (by exact rfl) (by exact rfl) (by exact rfl) (et (gS rfl (gS rfl (gS rfl g0))) rfl) rfl rfl ?_
                    refine p_gskip (j := 3) (t := 31) (by exact rfl) (by exact rfl) (by exact rfl) (et (gS rfl (gS rfl (gS rfl (gS rfl g0)))) rfl) rfl rfl ?_
                    refine p_geskip (j := 3) (t := 31) (by exact rfl) (by exact rfl) (by exact rfl) (et (gS rfl (gS rfl (gS rfl (gS rfl (gS rfl g0))))) rfl) rfl rfl ⟨.inr SU, ?_⟩
                    refine p_step (by exact rfl) (y_pickF (et (gS rfl (gS rfl (gS rfl (gS rfl (gS rfl (gS rfl g0)))))) rfl) rfl) ?_
                    refine p_nil ?_
                    refine hK25 _ _ ?_
                    refine fg2 6 38 (gS rfl (gS rfl (gS rfl (gS rfl (gS rfl (gS rfl (gS rfl (gS rfl (gS rfl (gS rfl (gS rfl (gS rfl (gS rfl g0))))))))))))) g0 (fun g => ?_)
                    refine c_false (et g0 rfl) rfl ?_
                    refine c_skip ?_
                    refine hK13 _ _ ?_
                    refine fg1 6 (gS rfl g0) (fun g => ?_)
                    refine c_seq (fun K34 hK34 => ?_)
                    exact (by
                      refine c_region ?_
                      refine l_step (y_moveV (et g0 rfl)) ?_
                      refine l_step (y_assignV (et g0 rfl)) ?_
                      refine l_nil ?_
                      refine hK34 _ _ ?_
                      refine fg1 4 g0 (fun g => ?_)
                      refine c_ret ?_
                      repeat with_reducible refine then_ret ?_
                      refine ret1 rfl (res_tmp (et g0 rfl)) ?_
                      exact ⟨by unfold dstC yT; rw [if_neg h1, if_neg (fun h9 => h9.2 h2)] <;> rfl, U⟩))))
          · skip
            
            rw [hE.wa] at cB1
            have h1 : argN f.stack 0 % A160 ∈ s.now.warmA := by simpa using cB1
            refine c_skip ?_
            refine hK8 _ _ ?_
            refine fg4 1 0 5 6 (gS rfl (gS rfl (gS rfl (gS rfl g0)))) (gS rfl (gS rfl (gS rfl g0))) (gS rfl (gS rfl g0)) (gS rfl g0) (fun g => ?_)
            refine c_seq (fun K35 hK35 => ?_)
            refine c_seq (fun K36 hK36 => ?_)
            exact (by
              refine fgv4 0 1 5 6 (gS rfl (gS rfl g0)) (gS rfl (gS rfl (gS rfl g0))) (gS rfl g0) g0 (fun g z0 z1 z5 z6 e0 e1 e5 e6 => ?_)
              refine c_drawJ (fun s_ w_ => ∃ (g : Nat → Value) (b38 : Nat), s_ = (upd (upd (upd (upd g 0 z0) 5 z5) 6 z6) 7 (.pointer (some ⟨b38, 0, none⟩))) ∧ Ch (fun _ => False) w11 w_ ∧ w11.heap.size ≤ b38 ∧ Blk w_ b38 ((wL ((absV V).bal f.self)).toArray)) Up 10 (.pure 0 (.pure 1 (.pure 2 (.pure 3 (.pure 4 (.pure 5 (.pure 6 (.pure 7 (.two 8 (.eff 9 (.eff 10 .fin)) 9 (.eff 8 (.eff 10 .fin))))))))))) (by kernel_rfl) (fun w39 hu => ⟨Up.refl _, ?_⟩) ?_
              · skip
                subst e0 e1 e5 e6
                replace k5 := k5.up hu
                replace hE := hE.up hu
                replace U := U.tr hu
                have SU := Up.refl w39
                have V37 : Ch (fun _ => False) w11 w39 := hu
                refine t_step (by exact rfl) (y_moveV (et (gS rfl (gS rfl (gS rfl g0))) rfl)) ?_
                refine t_step (by exact rfl) (y_nil (et g0 rfl)) ?_
                refine t_step (by exact rfl) (y_fld fld_75_0 (et g0 rfl)) ?_
                refine t_step (by exact rfl) (y_load1 one_59 (et g0 rfl) (atS (hE.vl.c1 hE.lx.pS rfl))) ?_
                refine t_step (by exact rfl) (y_moveV (et (gS rfl (gS rfl (gS rfl (gS rfl (gS rfl (gS rfl g0)))))) rfl)) ?_
                refine t_step (by exact rfl) (y_nil (et g0 rfl)) ?_
                refine t_step (by exact rfl) (y_fld fld_71_9 (et g0 rfl)) ?_
                refine t_step (by exact rfl) (y_loadR agg_25 sz_25 (et g0 rfl) (by rw [length_bL, length_be]) (atSR (hE.vl.kC.rowO hR.r2 (by omega)))) ?_
                refine t_two ?_ ?_
                · skip
                  refine t_eff (by exact rfl) (e_callV cal_99 (aC (et (gS rfl (gS rfl (gS rfl (gS rfl g0)))) rfl) (aC (et g0 rfl) aN)) (v_balance hE.vl hE.ok _ (by first | exact Nat.mod_lt _ A160_pos | exact hB.self | exact hB.caller | assumption))) (fun v40 w40 h40 => ?_)
                  obtain ⟨rfl, u40⟩ := h40
                  replace k5 := k5.up u40
                  replace hE := hE.up u40
                  replace U := U.tr u40
                  replace V37 := V37.tr u40
                  refine ⟨.inr (SU.tr u40), ?_⟩
                  replace SU := SU.tr u40
                  refine t_one ?_
                  refine t_eff (by exact rfl) (e_alloc zr_65) (fun v41 w41 h41 => ?_)
                  obtain ⟨b41, rfl, n41⟩ := h41
                  have d5_41 : b5 < b41 := Nat.lt_of_lt_of_le k5.lt n41.fresh
                  have f41 : w.heap.size ≤ b41 := Nat.le_trans U.size n41.fresh
                  have fS41 := Nat.le_trans SU.size n41.fresh
                  have fV37_41 := Nat.le_trans V37.size n41.fresh
                  replace k5 := k5.up n41.up
                  replace hE := hE.up n41.up
                  replace U := U.tr n41.up
                  replace V37 := V37.tr n41.up
                  have k41 := n41.blk
                  refine ⟨.inr (SU.tr n41.up), ?_⟩
                  replace SU := SU.tr n41.up
                  refine t_one ?_
                  refine t_effN (by exact rfl) (e_store sz_65 (et g0 rfl) (cellsV (et (gS rfl g0) rfl) rfl) (by first | (simp only [Value.cells, hV, aV, bV, wV, wL, List.size_toArray, length_bL, length_uL, length_be, size_spl, List.length_cons, List.length_nil, List.length_replicate, Nat.zero_add, Nat.reduceAdd, Nat.reduceLeDiff, Nat.le_refl]; done) | rfl) (by first | exact one_bL _ | exact one_uL _ | (intro v hv; simp at hv; subst hv; rfl)) k41 (by first | (simp only [Value.cells, hV, aV, bV, wV, wL, List.size_toArray, length_bL, length_uL, length_be, size_spl, List.length_cons, List.length_nil, List.length_replicate, Nat.zero_add, Nat.reduceAdd, Nat.reduceLeDiff, Nat.le_refl]; done) | exact Nat.le_of_ble_eq_true rfl | simp | omega)) (fun v42 w42 h42 => ?_)
                  obtain ⟨rfl, x42⟩ := h42
                  replace k5 := k5.ch x42.ch (by omega)
                  replace hE := hE.ch x42.ch (by first | omega | (intro b hb; first | (subst hb; exact ⟨hnw _ (by omega), fun hh => by have := hfz.lt hh; omega⟩) | (rcases hb with hb | hb <;> (subst hb; exact ⟨hnw _ (by omega), fun hh => by have := hfz.lt hh; omega⟩))))
                  replace k41 := x42.blk.full (by first | (simp only [Value.cells, hV, aV, bV, wV, wL, List.size_toArray, length_bL, length_uL, length_be, size_spl, List.length_cons, List.length_nil, List.length_replicate, Nat.zero_add, Nat.reduceAdd, Nat.reduceLeDiff, Nat.le_refl]; done) | rfl)
                  replace U := U.st x42 f41
                  replace V37 := V37.st x42 (by omega)
                  refine ⟨.inl rfl, ?_⟩
                  refine tl4 0 5 6 7 (gS rfl (gS rfl (gS rfl (gS rfl (gS rfl (gS rfl (gS rfl (gS rfl (gS rfl (gS rfl (gS rfl (gS rfl (gS rfl g0))))))))))))) (gS rfl (gS rfl (gS rfl (gS rfl (gS rfl (gS rfl (gS rfl (gS rfl (gS rfl (gS rfl (gS rfl g0))))))))))) (gS rfl (gS rfl (gS rfl (gS rfl (gS rfl (gS rfl (gS rfl (gS rfl (gS rfl (gS rfl g0)))))))))) g0 (fun g => ?_)
                  exact ⟨g, _, rfl, V37, Nat.le_trans hu.size fS41, k41⟩
                · skip
                  refine t_eff (by exact rfl) (e_alloc zr_65) (fun v43 w43 h43 => ?_)
                  obtain ⟨b43, rfl, n43⟩ := h43
                  have d5_43 : b5 < b43 := Nat.lt_of_lt_of_le k5.lt n43.fresh
                  have f43 : w.heap.size ≤ b43 := Nat.le_trans U.size n43.fresh
                  have fS43 := Nat.le_trans SU.size n43.fresh
                  have fV37_43 := Nat.le_trans V37.size n43.fresh
                  replace k5 := k5.up n43.up
                  replace hE := hE.up n43.up
                  replace U := U.tr n43.up
                  replace V37 := V37.tr n43.up
                  have k43 := n43.blk
                  refine ⟨.inr (SU.tr n43.up), ?_⟩
                  replace SU := SU.tr n43.up
                  refine t_one ?_
                  refine t_eff (by exact rfl) (e_callV cal_99 (aC (et (gS rfl (gS rfl (gS rfl (gS rfl (gS rfl g0))))) rfl) (aC (et (gS rfl g0) rfl) aN)) (v_balance hE.vl hE.ok _ (by first | exact Nat.mod_lt _ A160_pos | exact hB.self | exact hB.caller | assumption))) (fun v44 w44 h44 => ?_)
                  obtain ⟨rfl, u44⟩ := h44
                  replace k5 := k5.up u44
                  replace k43 := k43.up u44
                  replace hE := hE.up u44
                  replace U := U.tr u44
                  replace V37 := V37.tr u44
                  refine ⟨.inr (SU.tr u44), ?_⟩
                  replace SU := SU.tr u44
                  refine t_one ?_
                  refine t_effN (by exact rfl) (e_store sz_65 (et (gS rfl g0) rfl) (cellsV (et g0 rfl) rfl) (by first | (simp only [Value.cells, hV, aV, bV, wV, wL, List.size_toArray, length_bL, length_uL, length_be, size_spl, List.length_cons, List.length_nil, List.length_replicate, Nat.zero_add, Nat.reduceAdd, Nat.reduceLeDiff, Nat.le_refl]; done) | rfl) (by first | exact one_bL _ | exact one_uL _ | (intro v hv; simp at hv; subst hv; rfl)) k43 (by first | (simp only [Value.cells, hV, aV, bV, wV, wL, List.size_toArray, length_bL, length_uL, length_be, size_spl, List.length_cons, List.length_nil, List.length_replicate, Nat.zero_add, Nat.reduceAdd, Nat.reduceLeDiff, Nat.le_refl]; done) | exact Nat.le_of_ble_eq_true rfl | simp | omega)) (fun v45 w45 h45 => ?_)
                  obtain ⟨rfl, x45⟩ := h45
                  replace k5 := k5.ch x45.ch (by omega)
                  replace hE := hE.ch x45.ch (by first | omega | (intro b hb; first | (subst hb; exact ⟨hnw _ (by omega), fun hh => by have := hfz.lt hh; omega⟩) | (rcases hb with hb | hb <;> (subst hb; exact ⟨hnw _ (by omega), fun hh => by have := hfz.lt hh; omega⟩))))
                  replace k43 := x45.blk.full (by first | (simp only [Value.cells, hV, aV, bV, wV, wL, List.size_toArray, length_bL, length_uL, length_be, size_spl, List.length_cons, List.length_nil, List.length_replicate, Nat.zero_add, Nat.reduceAdd, Nat.reduceLeDiff, Nat.le_refl]; done) | rfl)
                  replace U := U.st x45 f43
                  replace V37 := V37.st x45 (by omega)
                  refine ⟨.inl rfl, ?_⟩
                  refine tl4 0 5 6 7 (gS rfl (gS rfl (gS rfl (gS rfl (gS rfl (gS rfl (gS rfl (gS rfl (gS rfl (gS rfl (gS rfl (gS rfl (gS rfl g0))))))))))))) (gS rfl (gS rfl (gS rfl (gS rfl (gS rfl (gS rfl (gS rfl (gS rfl (gS rfl (gS rfl (gS rfl g0))))))))))) (gS rfl (gS rfl (gS rfl (gS rfl (gS rfl (gS rfl (gS rfl (gS rfl (gS rfl (gS rfl g0)))))))))) (gS rfl g0) (fun g => ?_)
                  exact ⟨g, _, rfl, V37, Nat.le_trans hu.size fS43, k43⟩
              intro s_ w46 hJ
              obtain ⟨g, b38, rfl, V37, fn38, kn38⟩ := hJ
              subst e0 e1 e5 e6
              have d5_38 : b5 < b38 := Nat.lt_of_lt_of_le k5.lt fn38
              have f38 : w.heap.size ≤ b38 := Nat.le_trans U.size fn38
              replace k5 := k5.up V37
              replace hE := hE.up V37
              replace U := U.tr V37
              have k38 := kn38
              refine hK36 _ _ ?_
              refine c_seq (fun K47 hK47 => ?_)
              exact (by
                refine c_draw Up 11 [(0, true), (1, false), (2, true), (3, true), (4, true), (5, true), (6, true), (7, true), (8, true), (9, false), (10, true)] (by kernel_rfl) (fun w48 hu => ⟨Up.refl _, ?_⟩)
                replace k5 := k5.up hu
                replace k38 := k38.up hu
                replace hE := hE.up hu
                replace U := U.tr hu
                have SU := Up.refl w48
                have hE_s := hE
                have k5_s := k5
                have k38_s := k38
                refine p_step (by exact rfl) (y_loadB agg_65 sz_65 (et g0 rfl) rfl (atSB k38_s)) ?_
                refine p_eff (by exact rfl) (e_callV cal_78 (aC (et g0 rfl) aN) (isZero_spec _ _ (hE.balt _))) (fun v49 w49 h49 => ?_)
                obtain ⟨rfl, u49⟩ := h49
                replace k5 := k5.up u49
                replace k38 := k38.up u49
                replace hE := hE.up u49
                replace U := U.tr u49
                refine ⟨.inr (SU.tr u49), ?_⟩
                replace SU := SU.tr u49
                refine p_step (by exact rfl) (y_not (et g0 rfl)) ?_
                refine p_step (by exact rfl) (y_moveV (et g0 rfl)) ?_
                refine gsplitP (i := 31) g0 (fun q50 => ?_) (fun q50 => ?_)
                · skip
                  have h2 : (acctAt s.now.accts f.self).bal ≠ 0 := by rw [← hE.bl]; simpa using q50
                  refine p_gstep (j := 3) (t := 31) (by exact rfl) (by exact rfl) (by exact rfl) (et g0 rfl) rfl (y_moveV (et (gS rfl (gS rfl (gS rfl (gS rfl (gS rfl (gS rfl (gS rfl (gS rfl g0)))))))) rfl)) ?_
                  refine p_gstep (j := 3) (t := 31) (by exact rfl) (by exact rfl) (by exact rfl) (et (gS rfl g0) rfl) rfl (y_nil (et g0 rfl)) ?_
                  refine p_gstep (j := 3) (t := 31) (by exact rfl) (by exact rfl) (by exact rfl) (et (gS rfl (gS rfl g0)) rfl) rfl (y_fld fld_75_0 (et g0 rfl)) ?_
                  refine p_gstep (j := 3) (t := 31) (by exact rfl) (by exact rfl) (by exact rfl) (et (gS rfl (gS rfl (gS rfl g0))) rfl) rfl (y_load1 one_59 (et g0 rfl) (atS (hE_s.vl.c1 hE_s.lx.pS rfl))) ?_
                  refine p_gstep (j := 3) (t := 31) (by exact rfl) (by exact rfl) (by exact rfl) (et (gS rfl (gS rfl (gS rfl (gS rfl g0)))) rfl) rfl (y_loadB agg_25 sz_25 (et (gS rfl (gS rfl (gS rfl (gS rfl (gS rfl (gS rfl (gS rfl (gS rfl (gS rfl (gS rfl (gS rfl g0))))))))))) rfl) (by rw [List.size_toArray, length_bL, length_be]) (atSB k5_s)) ?_
                  refine p_geff (j := 3) (t := 31) (by exact rfl) (by exact rfl) (by exact rfl) (et (gS rfl (gS rfl (gS rfl (gS rfl (gS rfl g0))))) rfl) rfl (e_callV cal_295 (aC (et (gS rfl g0) rfl) (aC (et g0 rfl) aN)) (v_isEmpty hE.vl hE.ok _ (by first | exact Nat.mod_lt _ A160_pos | exact hB.self | exact hB.caller | assumption))) (fun v51 w51 h51 => ?_)
                  obtain ⟨rfl, u51⟩ := h51
                  replace k5 := k5.up u51
                  replace k38 := k38.up u51
                  replace hE := hE.up u51
                  replace U := U.tr u51
                  refine ⟨.inr (SU.tr u51), ?_⟩
                  replace SU := SU.tr u51
                  refine p_step (by exact rfl) (y_pickT (et (gS rfl (gS rfl (gS rfl (gS rfl (gS rfl (gS rfl g0)))))) rfl) (et g0 rfl)) ?_
                  refine p_nil ?_
                  refine hK47 _ _ ?_
                  refine fg2 6 38 (gS rfl (gS rfl (gS rfl (gS rfl (gS rfl (gS rfl (gS rfl (gS rfl (gS rfl (gS rfl (gS rfl (gS rfl (gS rfl g0))))))))))))) g0 (fun g => ?_)
                  refine c_cond (et g0 rfl) (fun cB2 => ?_) (fun cB2 => ?_)
                  · skip
                    
                    rw [hE.em] at cB2
                    exact (by
                      refine c_region ?_
                      refine l_step (y_moveV (et (gS rfl g0) rfl)) ?_
                      refine l_step (y_add (et g0 rfl) rfl (wrapU_addN (b := 25000) uk64 ?_)) ?_
                      decide
                      refine l_step (y_assignV (et g0 rfl)) ?_
                      refine l_nil ?_
                      refine hK35 _ _ ?_
                      refine fg1 6 g0 (fun g => ?_)
                      refine c_seq (fun K53 hK53 => ?_)
                      exact (by
                        refine c_region ?_
                        refine l_step (y_moveV (et g0 rfl)) ?_
                        refine l_step (y_assignV (et g0 rfl)) ?_
                        refine l_nil ?_
                        refine hK53 _ _ ?_
                        refine fg1 4 g0 (fun g => ?_)
                        refine c_ret ?_
                        repeat with_reducible refine then_ret ?_
                        refine ret1 rfl (res_tmp (et g0 rfl)) ?_
                        exact ⟨by unfold dstC yT; rw [if_pos h1, if_pos ⟨cB2, h2⟩] <;> rfl, U⟩))
                  · skip
                    
                    rw [hE.em] at cB2
                    refine c_skip ?_
                    refine hK35 _ _ ?_
                    refine fg1 6 (gS rfl g0) (fun g => ?_)
                    refine c_seq (fun K54 hK54 => ?_)
                    exact (by
                      refine c_region ?_
                      refine l_step (y_moveV (et g0 rfl)) ?_
                      refine l_step (y_assignV (et g0 rfl)) ?_
                      refine l_nil ?_
                      refine hK54 _ _ ?_
                      refine fg1 4 g0 (fun g => ?_)
                      refine c_ret ?_
                      repeat with_reducible refine then_ret ?_
                      refine ret1 rfl (res_tmp (et g0 rfl)) ?_
                      exact ⟨by unfold dstC yT; rw [if_pos h1, if_neg (fun h9 => by rw [cB2] at h9; exact Bool.false_ne_true h9.1)] <;> rfl, U⟩)
                · skip
                  have h2 : (acctAt s.now.accts f.self).bal = 0 := by rw [← hE.bl]; simpa using q50
                  refine p_gskip (j := 3) (t := 31) (by exact rfl) (by exact rfl) (by exact rfl) (et g0 rfl) rfl rfl ?_
                  refine p_gskip (j := 3) (t := 31) (by exact rfl) (by exact rfl) (by exact rfl) (et (gS rfl g0) rfl) rfl rfl ?_
                  refine p_gskip (j := 3) (t := 31) (by exact rfl) (by exact rfl) (by exact rfl) (et (gS rfl (gS rfl g0)) rfl) rfl rfl ?_
                  refine p_gskip (j := 3) (t := 31) (by exact rfl) (by exact rfl) (by exact rfl) (et (gS rfl (gS rfl (gS rfl g0))) rfl) rfl rfl ?_
                  refine p_gskip (j := 3) (t := 31) (by exact rfl) (by exact rfl) (by exact rfl) (et (gS rfl (gS rfl (gS rfl (gS rfl g0)))) rfl) rfl rfl ?_
                  refine p_geskip (j := 3) (t := 31) (by exact rfl) (by exact rfl) (by exact rfl) (et (gS rfl (gS rfl (gS rfl (gS rfl (gS rfl g0))))) rfl) rfl rfl ⟨.inr SU, ?_⟩
                  refine p_step (by exact rfl) (y_pickF (et (gS rfl (gS rfl (gS rfl (gS rfl (gS rfl (gS rfl g0)))))) rfl) rfl) ?_
                  refine p_nil ?_
                  refine hK47 _ _ ?_
                  refine fg2 6 38 (gS rfl (gS rfl (gS rfl (gS rfl (gS rfl (gS rfl (gS rfl (gS rfl (gS rfl (gS rfl (gS rfl (gS rfl (gS rfl g0))))))))))))) g0 (fun g => ?_)
                  refine c_false (et g0 rfl) rfl ?_
                  refine c_skip ?_
                  refine hK35 _ _ ?_
                  refine fg1 6 (gS rfl g0) (fun g => ?_)
                  refine c_seq (fun K56 hK56 => ?_)
                  exact (by
                    refine c_region ?_
                    refine l_step (y_moveV (et g0 rfl)) ?_
                    refine l_step (y_assignV (et g0 rfl)) ?_
                    refine l_nil ?_
                    refine hK56 _ _ ?_
                    refine fg1 4 g0 (fun g => ?_)
                    refine c_ret ?_
                    repeat with_reducible refine then_ret ?_
                    refine ret1 rfl (res_tmp (et g0 rfl)) ?_
                    exact ⟨by unfold dstC yT; rw [if_pos h1, if_neg (fun h9 => h9.2 h2)] <;> rfl, U⟩)))))))
end Go.Proofs.YgvaawGreat
