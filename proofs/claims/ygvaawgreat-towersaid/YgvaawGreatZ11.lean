import Derived.Test.YgvaawGreatZ10
set_option maxRecDepth 100000
set_option maxHeartbeats 4000000
set_option linter.unusedSimpArgs false
set_option linter.unusedVariables false
namespace Go.Proofs.YgvaawGreat
open Go
theorem BV.sl {H : Store} {v : Value} {l : List Nat} (h : BV H v l) : ∃ a c, v = .slice a l.length c := by
  rcases h.sv.at' with ⟨⟨q, h1⟩, h2⟩ | ⟨b, o, c, cs, h1, _⟩
  · exact ⟨q, 0, by rw [h1, h2]⟩
  · exact ⟨_, _, h1⟩
theorem tkn_eq (s : YSt) (a : Nat) : tknB s a = (decide (0 < (acctAt s.now.accts a).nonce) || decide (0 < (acctAt s.now.accts a).code.length)) := by
  unfold tknB
  congr 1
  by_cases h : (acctAt s.now.accts a).nonce = 0
  · rw [h]; rfl
  · rw [decide_eq_false h, decide_eq_true (by omega)]; rfl
theorem small_le {n : Nat} (h : n ≤ 717280) : smallN n = n := by unfold smallN; omega
theorem m_small (n : Nat) (w : World) (h : n ≤ 717280) : Ret 299 [wV n] w (fun v w' => v = .int .u32 (n : Nat) ∧ Up w w') := by
  have h1 := mach_small n w (Nat.lt_of_le_of_lt h (by decide))
  rw [small_le h] at h1
  exact h1
theorem sub_W {a b : Nat} (h : b ≤ a) (ha : a < W256) : (a + W256 - b) % W256 = a - b := by
  rw [show a + W256 - b = (a - b) + W256 by omega, Nat.add_mod_right]
  exact Nat.mod_eq_of_lt (by omega)
section
variable {w : World} {H : Store} {col : Nat → Nat} {bc : Nat} {cs : Array Value} {V : EV} {s : YSt} {sn : List Nat} {sv : List AW} {ms : List (List Nat)} {c : Nat}
theorem EX.memMx {lo : List (List Nat)} {m : List Nat} (hE : EX w H col bc cs V s sn sv ms c) (hms : ms = lo ++ [m]) : m.length ≤ 717280 := by
  obtain ⟨bm, cm, n, hM⟩ := hE.mx
  exact hM.mx m (by rw [hms]; simp)
end
theorem m_taken {w : World} {H : Store} {col : Nat → Nat} {bc : Nat} {cs : Array Value} {V : EV} {s : YSt} {sn : List Nat} {sv : List AW} {ms : List (List Nat)} {c : Nat} {low : List YF} {f : YF} (hE : EX w H col bc cs V s sn sv ms c) (hs : s.frames = low ++ [f]) (hp : s.phase = 1) (a : Nat) (ha : a < A160) :
    Ret 106 [.pointer (some ⟨bc, 0, none⟩), aV a] w (fun v w' => v = .bool (tknB s a) ∧ Up w w') := by
  obtain ⟨n9, hn9, hR⟩ := hE.topF hs
  have hB := hE.fbT hs
  have h6 := hE.six hs
  have htop := hE.cTop hs
  have hphs := hE.cPh hp
  have hbp := hB.pc
  have hbs := hB.stk
  have hbg := hB.gas
  have hbc9 := hB.code
  have hnw := hE.vl.new
  have hfz := hE.vl.fz
  have hcC := hE.vl.colC
  have hbc0 := hE.vl.kC.lt
  refine enter (n := 22) Hvaa.func106 rfl rfl (Nat.le_of_ble_eq_true rfl) ?_
  have U := Up.refl w
  refine c_seq (fun K1 hK1 => ?_)
  exact (by
    refine c_region ?_
    refine l_eff (e_boxV (et (gS rfl g0) rfl)) (fun v2 w2 h2 => ?_)
    obtain ⟨b2, rfl, n2⟩ := h2
    have f2 : w.heap.size ≤ b2 := Nat.le_trans U.size n2.fresh
    replace hE := hE.up n2.up
    replace U := U.tr n2.up
    have k2 := n2.blk
    replace k2 : Blk w2 b2 (bL (be 20 a)).toArray := k2
    refine l_step y_assignC ?_
    refine l_nil ?_
    refine hK1 _ _ ?_
    refine fg2 0 3 (gS rfl (gS rfl g0)) (gS rfl g0) (fun g => ?_)
    refine c_seq (fun K3 hK3 => ?_)
    exact (by
      refine c_draw Up 18 [(0, true), (1, true), (2, true), (3, true), (4, true), (5, false), (6, true), (7, true), (8, true), (9, true), (10, true), (11, true), (12, true), (13, false), (14, true), (15, true), (16, true), (17, true)] (by kernel_rfl) (fun w4 hu => ⟨Up.refl _, ?_⟩)
      replace k2 := k2.up hu
      replace hE := hE.up hu
      replace U := U.tr hu
      have SU := Up.refl w4
      have hE_s := hE
      have k2_s := k2
      refine p_step (by exact rfl) (y_moveV (et (gS rfl g0) rfl)) ?_
      refine p_step (by exact rfl) (y_nil (et g0 rfl)) ?_
      refine p_step (by exact rfl) (y_fld fld_75_0 (et g0 rfl)) ?_
      refine p_step (by exact rfl) (y_load1 one_59 (et g0 rfl) (atS (hE_s.vl.c1 hE_s.lx.pS rfl))) ?_
      refine p_step (by exact rfl) (y_loadB agg_25 sz_25 (et (gS rfl (gS rfl (gS rfl (gS rfl g0)))) rfl) (by rw [List.size_toArray, length_bL, length_be]) (atSB k2_s)) ?_
      refine p_eff (by exact rfl) (e_callV cal_161 (aC (et (gS rfl g0) rfl) (aC (et g0 rfl) aN)) (v_nonce hE.vl hE.ok _ ha)) (fun v5 w5 h5 => ?_)
      obtain ⟨rfl, u5⟩ := h5
      replace k2 := k2.up u5
      replace hE := hE.up u5
      replace U := U.tr u5
      refine ⟨.inr (SU.tr u5), ?_⟩
      replace SU := SU.tr u5
      refine p_step (by exact rfl) (y_gtr (et g0 rfl) rfl) ?_
      refine p_step (by exact rfl) (y_moveV (et g0 rfl)) ?_
      refine gsplitP (i := 12) g0 (fun q6 => ?_) (fun q6 => ?_)
      · skip
        rw [hE.no] at q6
        have hn9 : 0 < (acctAt s.now.accts a).nonce := by have := of_decide_eq_true q6; omega
        refine p_gskip (j := 7) (t := 12) (by exact rfl) (by exact rfl) (by exact rfl) (et g0 rfl) rfl rfl ?_
        refine p_gskip (j := 7) (t := 12) (by exact rfl) (by exact rfl) (by exact rfl) (et (gS rfl g0) rfl) rfl rfl ?_
        refine p_gskip (j := 7) (t := 12) (by exact rfl) (by exact rfl) (by exact rfl) (et (gS rfl (gS rfl g0)) rfl) rfl rfl ?_
        refine p_gskip (j := 7) (t := 12) (by exact rfl) (by exact rfl) (by exact rfl) (et (gS rfl (gS rfl (gS rfl g0))) rfl) rfl rfl ?_
        refine p_gskip (j := 7) (t := 12) (by exact rfl) (by exact rfl) (by exact rfl) (et (gS rfl (gS rfl (gS rfl (gS rfl g0)))) rfl) rfl rfl ?_
        refine p_geskip (j := 7) (t := 12) (by exact rfl) (by exact rfl) (by exact rfl) (et (gS rfl (gS rfl (gS rfl (gS rfl (gS rfl g0))))) rfl) rfl rfl ⟨.inr SU, ?_⟩
        refine p_gskip (j := 7) (t := 12) (by exact rfl) (by exact rfl) (by exact rfl) (et (gS rfl (gS rfl (gS rfl (gS rfl (gS rfl (gS rfl g0)))))) rfl) rfl rfl ?_
        refine p_gskip (j := 7) (t := 12) (by exact rfl) (by exact rfl) (by exact rfl) (et (gS rfl (gS rfl (gS rfl (gS rfl (gS rfl (gS rfl (gS rfl g0))))))) rfl) rfl rfl ?_
        refine p_step (by exact rfl) (y_pickT (et (gS rfl (gS rfl (gS rfl (gS rfl (gS rfl (gS rfl (gS rfl (gS rfl g0)))))))) rfl) rfl) ?_
        refine p_step (by exact rfl) (y_assignV (et g0 rfl)) ?_
        refine p_nil ?_
        refine hK3 _ _ ?_
        refine fg1 4 g0 (fun g => ?_)
        refine c_ret ?_
        repeat with_reducible refine then_ret ?_
        refine ret1 rfl (res_tmp (et g0 rfl)) ?_
        exact ⟨congrArg Value.bool (by rw [tkn_eq, decide_eq_true hn9]; rfl), U⟩
      · skip
        rw [hE.no] at q6
        have hn9 : ¬ 0 < (acctAt s.now.accts a).nonce := by have := of_decide_eq_false q6; omega
        refine p_gstep (j := 7) (t := 12) (by exact rfl) (by exact rfl) (by exact rfl) (et g0 rfl) rfl (y_moveV (et (gS rfl (gS rfl (gS rfl (gS rfl (gS rfl (gS rfl (gS rfl (gS rfl (gS rfl (gS rfl g0)))))))))) rfl)) ?_
        refine p_gstep (j := 7) (t := 12) (by exact rfl) (by exact rfl) (by exact rfl) (et (gS rfl g0) rfl) rfl (y_nil (et g0 rfl)) ?_
        refine p_gstep (j := 7) (t := 12) (by exact rfl) (by exact rfl) (by exact rfl) (et (gS rfl (gS rfl g0)) rfl) rfl (y_fld fld_75_0 (et g0 rfl)) ?_
        refine p_gstep (j := 7) (t := 12) (by exact rfl) (by exact rfl) (by exact rfl) (et (gS rfl (gS rfl (gS rfl g0))) rfl) rfl (y_load1 one_59 (et g0 rfl) (atS (hE_s.vl.c1 hE_s.lx.pS rfl))) ?_
        refine p_gstep (j := 7) (t := 12) (by exact rfl) (by exact rfl) (by exact rfl) (et (gS rfl (gS rfl (gS rfl (gS rfl g0)))) rfl) rfl (y_loadB agg_25 sz_25 (et (gS rfl (gS rfl (gS rfl (gS rfl (gS rfl (gS rfl (gS rfl (gS rfl (gS rfl (gS rfl (gS rfl (gS rfl (gS rfl g0))))))))))))) rfl) (by rw [List.size_toArray, length_bL, length_be]) (atSB k2_s)) ?_
        refine p_geff (j := 7) (t := 12) (by exact rfl) (by exact rfl) (by exact rfl) (et (gS rfl (gS rfl (gS rfl (gS rfl (gS rfl g0))))) rfl) rfl (e_callV cal_103 (aC (et (gS rfl g0) rfl) (aC (et g0 rfl) aN)) (v_code hE.vl hE.ok _ ha)) (fun v7 w7 h7 => ?_)
        obtain ⟨H7, g7, n7⟩ := h7
        replace k2 := k2.up g7.up
        replace hE := hE.up g7.up
        replace U := U.tr g7.up
        obtain ⟨ca9, cc9, rfl⟩ := n7.sl
        refine ⟨.inr (SU.tr g7.up), ?_⟩
        replace SU := SU.tr g7.up
        refine p_gstep (j := 7) (t := 12) (by exact rfl) (by exact rfl) (by exact rfl) (et (gS rfl (gS rfl (gS rfl (gS rfl (gS rfl (gS rfl g0)))))) rfl) rfl (y_len Hvaa.underlying38 (et g0 rfl)) ?_
        refine p_gstep (j := 7) (t := 12) (by exact rfl) (by exact rfl) (by exact rfl) (et (gS rfl (gS rfl (gS rfl (gS rfl (gS rfl (gS rfl (gS rfl g0))))))) rfl) rfl (y_gtr (et g0 rfl) rfl) ?_
        refine p_step (by exact rfl) (y_pickF (et (gS rfl (gS rfl (gS rfl (gS rfl (gS rfl (gS rfl (gS rfl (gS rfl g0)))))))) rfl) (et g0 rfl)) ?_
        refine p_step (by exact rfl) (y_assignV (et g0 rfl)) ?_
        refine p_nil ?_
        refine hK3 _ _ ?_
        refine fg1 4 g0 (fun g => ?_)
        refine c_ret ?_
        repeat with_reducible refine then_ret ?_
        refine ret1 rfl (res_tmp (et g0 rfl)) ?_
        exact ⟨congrArg Value.bool (by rw [tkn_eq, decide_eq_false hn9, Bool.false_or, hE.cd]; exact decide_eq_decide.2 (by omega)), U⟩))
theorem m_read {w : World} {H : Store} {col : Nat → Nat} {bc : Nat} {cs : Array Value} {V : EV} {s : YSt} {sn : List Nat} {sv : List AW} {ms : List (List Nat)} {c : Nat} {low : List YF} {f : YF} (hE : EX w H col bc cs V s sn sv ms c) (hs : s.frames = low ++ [f]) (hp : s.phase = 1) {lo : List (List Nat)} {m : List Nat} (hms : ms = lo ++ [m]) (x y : Nat) (hx9 : x < W256) (hy9 : y < W256) (hr : y ≠ 0 → x + y ≤ m.length) :
    Ret 292 [.pointer (some ⟨bc, 0, none⟩), wV x, wV y] w (fun v w' => ∃ H' vb, v = .tuple #[vb, .bool true] ∧ Go No w H w' H' ∧ BV H' vb (rdN m x y)) := by
  obtain ⟨n9, hn9, hR⟩ := hE.topF hs
  have hB := hE.fbT hs
  have h6 := hE.six hs
  have htop := hE.cTop hs
  have hphs := hE.cPh hp
  have hbp := hB.pc
  have hbs := hB.stk
  have hbg := hB.gas
  have hbc9 := hB.code
  have hnw := hE.vl.new
  have hfz := hE.vl.fz
  have hcC := hE.vl.colC
  have hbc0 := hE.vl.kC.lt
  have hE0 := hE
  refine enter (n := 22) Hvaa.func292 rfl rfl (Nat.le_of_ble_eq_true rfl) ?_
  have U := Up.refl w
  refine c_seq (fun K1 hK1 => ?_)
  exact (by
    refine c_region ?_
    refine l_eff (e_boxV (et (gS rfl g0) rfl)) (fun v2 w2 h2 => ?_)
    obtain ⟨b2, rfl, n2⟩ := h2
    have f2 : w.heap.size ≤ b2 := Nat.le_trans U.size n2.fresh
    replace hE := hE.up n2.up
    replace U := U.tr n2.up
    have k2 := n2.blk
    refine l_eff (e_boxV (et (gS rfl (gS rfl (gS rfl g0))) rfl)) (fun v3 w3 h3 => ?_)
    obtain ⟨b3, rfl, n3⟩ := h3
    have d2_3 : b2 < b3 := Nat.lt_of_lt_of_le k2.lt n3.fresh
    have f3 : w.heap.size ≤ b3 := Nat.le_trans U.size n3.fresh
    replace k2 := k2.up n3.up
    replace hE := hE.up n3.up
    replace U := U.tr n3.up
    have k3 := n3.blk
    refine l_step y_assignC ?_
    refine l_step y_assignC ?_
    refine l_nil ?_
    refine hK1 _ _ ?_
    refine fg3 0 4 5 (gS rfl (gS rfl (gS rfl (gS rfl g0)))) (gS rfl (gS rfl (gS rfl g0))) (gS rfl (gS rfl g0)) (fun g => ?_)
    refine c_seq (fun K4 hK4 => ?_)
    refine c_seq (fun K5 hK5 => ?_)
    exact (by
      refine c_region ?_
      refine l_step (y_loadB agg_65 sz_65 (et g0 rfl) rfl (at1B k3)) ?_
      refine l_eff (e_callV cal_78 (aC (et g0 rfl) aN) (isZero_spec _ _ hy9)) (fun v6 w6 h6 => ?_)
      obtain ⟨rfl, u6⟩ := h6
      replace k2 := k2.up u6
      replace k3 := k3.up u6
      replace hE := hE.up u6
      replace U := U.tr u6
      refine l_nil ?_
      refine hK5 _ _ ?_
      refine fg4 0 4 5 10 (gS rfl (gS rfl (gS rfl (gS rfl g0)))) (gS rfl (gS rfl (gS rfl g0))) (gS rfl (gS rfl g0)) g0 (fun g => ?_)
      refine c_cond (et g0 rfl) (fun cB1 => ?_) (fun cB1 => ?_)
      · skip
        
        have y0 : y = 0 := of_decide_eq_true cB1
        refine c_seq (fun K8 hK8 => ?_)
        exact (by
          refine c_region ?_
          refine l_step y_assignC ?_
          refine l_step y_assignC ?_
          refine l_nil ?_
          refine hK8 _ _ ?_
          refine fg2 6 7 (gS rfl g0) g0 (fun g => ?_)
          refine c_ret ?_
          repeat with_reducible refine then_ret ?_
          refine ret2 rfl (res_tmp (et (gS rfl g0) rfl)) (res_tmp (et g0 rfl)) ?_
          exact ⟨_, _, rfl, Go.ofUp hE0.vl.fz U, by unfold rdN; rw [if_pos y0]; exact BV.nil _⟩)
      · skip
        
        have y0 : y ≠ 0 := of_decide_eq_false cB1
        have hr8 := hr y0
        have hmx := hE.memMx hms
        refine c_skip ?_
        refine hK4 _ _ ?_
        refine fg3 0 4 5 (gS rfl (gS rfl (gS rfl g0))) (gS rfl (gS rfl g0)) (gS rfl g0) (fun g => ?_)
        refine c_seq (fun K9 hK9 => ?_)
        exact (by
          refine c_draw Up 9 [(0, true), (1, true), (2, true), (3, true), (5, true), (4, false), (6, false), (7, false), (8, true)] (by kernel_rfl) (fun w10 hu => ⟨Up.refl _, ?_⟩)
          replace k2 := k2.up hu
          replace k3 := k3.up hu
          replace hE := hE.up hu
          replace U := U.tr hu
          have SU := Up.refl w10
          refine p_step (by exact rfl) (y_moveV (et (gS rfl (gS rfl g0)) rfl)) ?_
          refine p_step (by exact rfl) (y_nil (et g0 rfl)) ?_
          refine p_step (by exact rfl) (y_fld fld_75_1 (et g0 rfl)) ?_
          refine p_step (by exact rfl) (y_loadB agg_65 sz_65 (et (gS rfl (gS rfl (gS rfl (gS rfl g0)))) rfl) rfl (atSB k2)) ?_
          refine p_step (by exact rfl) (y_loadB agg_65 sz_65 (et (gS rfl (gS rfl (gS rfl (gS rfl g0)))) rfl) rfl (atSB k3)) ?_
          refine p_eff (by exact rfl) (e_callV cal_299 (aC (et (gS rfl g0) rfl) aN) (m_small _ _ (by omega))) (fun v11 w11 h11 => ?_)
          obtain ⟨rfl, u11⟩ := h11
          replace k2 := k2.up u11
          replace k3 := k3.up u11
          replace hE := hE.up u11
          replace U := U.tr u11
          refine ⟨.inr (SU.tr u11), ?_⟩
          replace SU := SU.tr u11
          refine p_eff (by exact rfl) (e_callV cal_299 (aC (et (gS rfl g0) rfl) aN) (m_small _ _ (by omega))) (fun v12 w12 h12 => ?_)
          obtain ⟨rfl, u12⟩ := h12
          replace k2 := k2.up u12
          replace k3 := k3.up u12
          replace hE := hE.up u12
          replace U := U.tr u12
          refine ⟨.inr (SU.tr u12), ?_⟩
          replace SU := SU.tr u12
          refine p_eff (by exact rfl) (e_callV cal_381 (aC (et (gS rfl (gS rfl (gS rfl (gS rfl g0)))) rfl) (aC (et (gS rfl g0) rfl) (aC (et g0 rfl) aN))) (hE.mRead hms x y (by omega) (by omega))) (fun v13 w13 h13 => ?_)
          obtain ⟨bb13, rfl, kb13, fb13, u13⟩ := h13
          have fq9 := Nat.le_trans U.size fb13
          have hdg9 := ((hE.memDig hms).drop x).take y
          have hlen9 : ((m.drop x).take y).length = y := by rw [List.length_take, List.length_drop]; omega
          replace k2 := k2.up u13
          replace k3 := k3.up u13
          replace hE := hE.up u13
          replace U := U.tr u13
          obtain ⟨HN, gN, nN⟩ := bv_new hE0.vl.fz U kb13 fq9 hdg9 (by omega)
          rw [hlen9] at nN
          rw [← rd_in y0 hr8] at nN
          refine ⟨.inr (SU.tr u13), ?_⟩
          replace SU := SU.tr u13
          exact (by
            refine p_step (by exact rfl) (y_assignV (et g0 rfl)) ?_
            refine p_nil ?_
            refine hK9 _ _ ?_
            refine fg1 8 g0 (fun g => ?_)
            refine c_seq (fun K14 hK14 => ?_)
            exact (by
              refine c_region ?_
              refine l_step (y_moveV (et g0 rfl)) ?_
              refine l_step (y_moveV (et (gS rfl g0) rfl)) ?_
              refine l_step (y_neqNS Hvaa.underlying38 (et g0 rfl) rfl) ?_
              refine l_step (y_assignV (et (gS rfl (gS rfl g0)) rfl)) ?_
              refine l_step (y_assignV (et (gS rfl g0) rfl)) ?_
              refine l_nil ?_
              refine hK14 _ _ ?_
              refine fg2 6 7 (gS rfl g0) g0 (fun g => ?_)
              refine c_ret ?_
              repeat with_reducible refine then_ret ?_
              refine ret2 rfl (res_tmp (et (gS rfl g0) rfl)) (res_tmp (et g0 rfl)) ?_
              exact ⟨_, _, rfl, gN, nN⟩)))))
end Go.Proofs.YgvaawGreat
