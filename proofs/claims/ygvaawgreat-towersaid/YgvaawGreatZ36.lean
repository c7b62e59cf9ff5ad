import Derived.Test.YgvaawGreatZ35
set_option maxRecDepth 100000
set_option maxHeartbeats 4000000
set_option linter.unusedSimpArgs false
set_option linter.unusedVariables false
namespace Go.Proofs.YgvaawGreat
open Go
section
variable {w : World} {b : Nat} {u : YF} {vc vi : Value} {dp sb n : Nat} {ds : List Nat}
theorem Blk.fkd {q : Nat} (k : Blk w b (spl (fcv u vc vi dp sb n ds).toArray 0 [.int .u8 (q : Nat)])) : Blk w b (fcv { u with kind := q } vc vi dp sb n ds).toArray := by rw [← fcv_kd]; exact k
theorem Blk.fnt {q : Nat} (k : Blk w b (spl (fcv u vc vi dp sb n ds).toArray 2 [.int .u8 (q : Nat)])) : Blk w b (fcv { u with ntv := q } vc vi dp sb n ds).toArray := by rw [← fcv_nt]; exact k
theorem Blk.fst {q : Bool} (k : Blk w b (spl (fcv u vc vi dp sb n ds).toArray 3 [.bool q])) : Blk w b (fcv { u with static := q } vc vi dp sb n ds).toArray := by rw [← fcv_st]; exact k
theorem Blk.fgs {q : Nat} (k : Blk w b (spl (fcv u vc vi dp sb n ds).toArray 7 [.int .u64 (q : Nat)])) : Blk w b (fcv { u with gas := q } vc vi dp sb n ds).toArray := by rw [← fcv_gs]; exact k
theorem Blk.fse {q : Nat} (k : Blk w b (spl (fcv u vc vi dp sb n ds).toArray 9 (bL (be 20 q)))) : Blk w b (fcv { u with self := q } vc vi dp sb n ds).toArray := by rw [← fcv_se]; exact k
theorem Blk.fca {q : Nat} (k : Blk w b (spl (fcv u vc vi dp sb n ds).toArray 29 (bL (be 20 q)))) : Blk w b (fcv { u with caller := q } vc vi dp sb n ds).toArray := by rw [← fcv_ca]; exact k
theorem Blk.fva {q : Nat} (k : Blk w b (spl (fcv u vc vi dp sb n ds).toArray 49 (wL q))) : Blk w b (fcv { u with value := q } vc vi dp sb n ds).toArray := by rw [← fcv_va]; exact k
theorem Blk.fco {q : Value} (k : Blk w b (spl (fcv u vc vi dp sb n ds).toArray 53 [q])) : Blk w b (fcv u q vi dp sb n ds).toArray := by rw [← fcv_co]; exact k
theorem Blk.fin {q : Value} (k : Blk w b (spl (fcv u vc vi dp sb n ds).toArray 54 [q])) : Blk w b (fcv u vc q dp sb n ds).toArray := by rw [← fcv_in]; exact k
end
theorem fcv_ci (u : YF) (a b : List Nat) (vc vi : Value) (dp sb n : Nat) (ds : List Nat) : fcv { u with code := a, input := b } vc vi dp sb n ds = fcv u vc vi dp sb n ds := rfl
theorem setF0 (f : YF) (tk x : Nat) : setF f tk false x 0 = { f with stack := f.stack.take (f.stack.length - tk) } := by
  unfold setF
  simp
theorem natAt_lt (a : Nat) : natAt a < 8 := by
  unfold natAt
  split
  · omega
  · decide
theorem ph1 {s : YSt} (h : s.phase = 1) : { s with phase := 1 } = s := by rw [← h]
theorem rd_dig {m : List Nat} (h : Dig 256 m) (x y : Nat) : Dig 256 (rdN m x y) := by
  unfold rdN
  split
  · exact Dig.nil _
  · exact dig_cut h _ _
theorem cwait_0 {f : YF} {q tk i : Nat} (h1 : tkN q = tk) (h2 : tk = i + 4) (hn : argN f.stack (i + 3) = 0) : setF { f with gas := f.gas - sentN f.gas (argN f.stack 0), outOff := 0, outLen := 0 } tk false 0 0 = cWait f q := by
  rw [setF0]
  unfold cWait waitN cSent
  rw [h1, show tk - 4 + 3 = i + 3 by omega, hn, if_pos rfl]
theorem cwait_1 {f : YF} {q tk i : Nat} (h1 : tkN q = tk) (h2 : tk = i + 4) (hn : argN f.stack (i + 3) ≠ 0) : setF { f with gas := f.gas - sentN f.gas (argN f.stack 0), outOff := argN f.stack (i + 2), outLen := argN f.stack (i + 3) } tk false 0 0 = cWait f q := by
  rw [setF0]
  unfold cWait waitN cSent
  rw [h1, show tk - 4 + 3 = i + 3 by omega, show tk - 4 + 2 = i + 2 by omega, if_neg hn]
theorem call_slack (f : YF) (q : Nat) {c' c1 : Nat} (hk : crN (cK q) = false) (h3 : c' + (if cV f q ≠ 0 then 2350 else 0) ≤ c1) (hv : cVal f q ≠ 0 → cK q ≠ 3 → cK q ≠ 7 → cV f q ≠ 0) : c' + cG f q + (if crN (cK q) = true then 50 else 0) + (if cK q ≠ 3 ∧ cK q ≠ 7 ∧ cVal f q ≠ 0 then 50 else 0) ≤ c1 + sentN f.gas (argN f.stack 0) := by
  rw [if_neg (by rw [hk]; decide)]
  unfold cG cSent
  by_cases h : cV f q = 0
  · rw [if_pos h, if_neg (fun h9 => hv h9.2.2 h9.1 h9.2.1 h)]
    rw [if_neg (fun h9 => h9 h)] at h3
    omega
  · rw [if_neg h]
    rw [if_pos h] at h3
    split <;> omega
theorem XO.of {w0 w : World} {H0 H : Store} {col0 col : Nat → Nat} {bc : Nat} {cs : Array Value} {V : EV} {s : YSt} {sn : List Nat} {sv : List AW} {ms : List (List Nat)} {c : Nat} (h : XT w0 H0 col0 w H col bc cs V s sn sv ms c) (e : ms = s.frames.map (fun f => f.mem)) : XO w0 H0 col0 w bc s c := by
  subst e
  exact ⟨H, col, cs, V, sn, sv, h⟩
section
variable {w w' : World} {H : Store} {col : Nat → Nat} {bc : Nat} {cs : Array Value} {V : EV} {s : YSt} {sn : List Nat} {sv : List AW} {ms : List (List Nat)} {c : Nat} {low : List YF} {f : YF}
theorem EX.limR (hE : EX w H col bc cs V s sn sv ms c) (hp : s.phase = 1) : cs[2407]? = some (.int .u64 (s.limit : Nat)) := hE.lx.lim (by omega)
theorem EX.madR (hE : EX w H col bc cs V s sn sv ms c) (hp : s.phase = 1) : RowIn cs 2415 (bL (be 20 s.made)) := hE.lx.mad (by omega)
theorem EX.orgR (hE : EX w H col bc cs V s sn sv ms c) (hp : s.phase = 1) : hasA V s.origin ∧ hasA V s.env.coinbase := hE.px.org (by omega)
end
theorem m_opCall241 {w : World} {H : Store} {col : Nat → Nat} {bc : Nat} {cs : Array Value} {V : EV} {s : YSt} {sn : List Nat} {sv : List AW} {ms : List (List Nat)} {c : Nat} {low : List YF} {f : YF} (hE : EX w H col bc cs V s sn sv ms c) (hs : s.frames = low ++ [f]) (hp : s.phase = 1) (hms : ms = (low ++ [f]).map (fun g => g.mem)) (hap : s.applied ≤ 4) (hpar : Par low) (hq : opcN f = 241) (hpc9 : f.pc < 512) (htk9 : 7 ≤ f.stack.length) (hrd : argN f.stack (3 + 1) ≠ 0 → argN f.stack 3 + argN f.stack (3 + 1) ≤ f.mem.length) (hout : argN f.stack (3 + 3) ≠ 0 → argN f.stack (3 + 2) + argN f.stack (3 + 3) ≤ f.mem.length) {c' c1 : Nat} (hc1 : c1 + 100 ≤ c) (hc2 : (ctT f) ∉ s.now.warmA → c1 + 2600 ≤ c) (hc3 : c' + (if cV f 241 ≠ 0 then 2350 else 0) ≤ c1) (hov : argN f.stack 2 ≤ (acctAt s.now.accts f.self).bal → argN f.stack 2 ≠ 0 → (acctAt (takeB s.now.accts f.self (argN f.stack 2)) (ctT f)).bal + argN f.stack 2 < W256) :
    Ret 203 [.pointer (some ⟨bc, 0, none⟩)] w (fun v w' => v = .tuple #[] ∧ XO w H col w' bc (callY { s with ret := [] } f 241 low) c') := by
  obtain ⟨n9, hn9, hR⟩ := hE.topF hs
  have hB := hE.fbT hs
  have h6 := hE.six hs
  have htop := hE.cTop hs
  have hphs := hE.cPh hp
  have hbp := hB.pc
  have hbs := hB.stk
  have hbg := hB.gas
  have hbc9 := hB.code
  have hnw := hE.vl.new
  have hfz := hE.vl.fz
  have hcC := hE.vl.colC
  have hbc0 := hE.vl.kC.lt
  have hX := XT.refl hE
  have hms8 : ms = low.map (fun g => g.mem) ++ [f.mem] := by rw [hms]; simp
  have hsk : f.stack = f.stack := rfl
  have hml := hE.memLe hms8
  have hrl := rd_len hrd hml
  have hcl := hE.codeLen (ctT f)
  have hpt := hE.px.pot.t
  rw [gas_top hs] at hpt
  have hcs : cG f 241 ≤ sentN f.gas (argN f.stack 0) + (if cV f 241 ≠ 0 then 2350 else 0) := by
    unfold cG cSent
    by_cases h9 : cV f 241 = 0
    · rw [if_pos h9]; omega
    · rw [if_neg h9, if_pos h9]; omega
  refine enter (n := 212) Hvaa.func203 rfl rfl (Nat.le_of_ble_eq_true rfl) ?_
  have U : Ch (fun _ => True) w w := Ch.refl _ w
  refine c_seq (fun K1 hK1 => ?_)
  exact (by
    refine c_region ?_
    refine l_step (y_moveV (et g0 rfl)) ?_
    refine l_eff (e_callV cal_183 (aC (et g0 rfl) aN) (m_running hX.ex hs hp)) (fun v2 w2 h2 => ?_)
    obtain ⟨rfl, u2⟩ := h2
    replace hX := hX.up u2
    replace U := U.tr u2
    refine l_step (y_assignV (et g0 rfl)) ?_
    refine l_nil ?_
    refine hK1 _ _ ?_
    refine fg2 0 2 (gS rfl (gS rfl (gS rfl g0))) g0 (fun g => ?_)
    refine c_seq (fun K3 hK3 => ?_)
    refine c_seq (fun K4 hK4 => ?_)
    exact (by
      refine c_region ?_
      refine l_step (y_moveV (et g0 rfl)) ?_
      refine l_step (y_eqlNil Hvaa.underlying276 (et g0 rfl) rfl) ?_
      refine l_nil ?_
      refine hK4 _ _ ?_
      refine fg3 0 2 13 (gS rfl (gS rfl (gS rfl g0))) (gS rfl (gS rfl g0)) g0 (fun g => ?_)
      refine c_false (et g0 rfl) rfl ?_
      refine c_skip ?_
      refine hK3 _ _ ?_
      refine fg2 0 2 (gS rfl (gS rfl g0)) (gS rfl g0) (fun g => ?_)
      refine c_seq (fun K6 hK6 => ?_)
      exact (by
        refine c_region ?_
        refine l_step (y_moveV (et (gS rfl g0) rfl)) ?_
        refine l_step (y_moveV (et (gS rfl g0) rfl)) ?_
        refine l_eff (e_callV cal_264 (aC (et (gS rfl g0) rfl) (aC (et g0 rfl) (aC (v := .int .i64 ((1 : Nat) : Int)) rfl aN))) (m_arg hX.ex hs hp (by first | exact hpf | rfl) _ (by decide))) (fun v7 w7 h7 => ?_)
        obtain ⟨rfl, u7⟩ := h7
        replace hX := hX.up u7
        replace U := U.tr u7
        refine l_eff (e_callV cal_293 (aC (et g0 rfl) aN) (mach_addrOf _ _ (argN_lt hB _))) (fun v8 w8 h8 => ?_)
        obtain ⟨rfl, u8⟩ := h8
        replace hX := hX.up u8
        replace U := U.tr u8
        refine l_eff (e_alloc zr_25) (fun v9 w9 h9 => ?_)
        obtain ⟨b9, rfl, n9⟩ := h9
        have f9 : w.heap.size ≤ b9 := Nat.le_trans U.size n9.fresh
        replace hX := hX.up n9.up
        replace U := U.tr n9.up
        have k9 := n9.blk
        obtain ⟨zs9, hz9, k9⟩ : ∃ cs : Array Value, cs.size = 20 ∧ Blk w9 b9 cs := ⟨_, rfl, k9⟩
        have nc9 : col b9 = 0 := hnw _ f9
        refine l_effN (e_store sz_25 (et g0 rfl) (cellsV (et (gS rfl g0) rfl) rfl) (by rw [length_bL, length_be]) (by exact one_bL _) k9 (by (rw [hz9]; exact Nat.le_refl _))) (fun v10 w10 h10 => ?_)
        obtain ⟨rfl, x10⟩ := h10
        replace hX := hX.ch x10.ch (by first | omega | (intro b hb; first | (subst hb; first | exact ⟨by omega, fun hh => by have := hfz.lt hh; omega, by omega⟩ | exact ⟨by omega, by assumption, by omega⟩) | (rcases hb with hb | hb <;> (subst hb; first | exact ⟨by omega, fun hh => by have := hfz.lt hh; omega, by omega⟩ | exact ⟨by omega, by assumption, by omega⟩))))
        replace k9 := x10.blk.full (by rw [hz9, length_bL, length_be])
        replace U := U.st x10 (.inr f9)
        refine l_nil ?_
        refine hK6 _ _ ?_
        refine fg3 0 2 3 (gS rfl (gS rfl (gS rfl (gS rfl (gS rfl (gS rfl g0)))))) (gS rfl (gS rfl (gS rfl (gS rfl (gS rfl g0))))) g0 (fun g => ?_)
        refine c_seq (fun K11 hK11 => ?_)
        exact (by
          refine c_region ?_
          refine l_step (y_moveV (et (gS rfl (gS rfl g0)) rfl)) ?_
          refine l_step (y_nil (et g0 rfl)) ?_
          refine l_step (y_fld fld_75_5 (et g0 rfl)) ?_
          refine l_effN (e_store sz_38 (et g0 rfl) (cellsV rfl rfl) rfl (by intro v hv; simp at hv; subst hv; rfl) hX.ex.vl.kC (by rw [hX.ex.vl.size]; omega)) (fun v12 w12 h12 => ?_)
          obtain ⟨rfl, x12⟩ := h12
          have hv12 := hX.stRt (l := []) (by omega) (BV.nil _) x12
          replace k9 := k9.ch x12.ch (by intro hm; first | omega | (subst hm; omega))
          replace hX := hv12
          replace U := U.cc x12.ch (by intro b hb; exact .inl trivial)
          obtain ⟨s0, hs0⟩ : ∃ s0 : YSt, s0 = { s with ret := [] } := ⟨_, rfl⟩
          replace hX := hX.reS hs0
          have hsf0 : s0.frames = low ++ [f] := by rw [hs0]; exact hs
          have hph0 : s0.phase = 1 := by rw [hs0]; exact hp
          have hap0 : s0.applied ≤ 4 := by rw [hs0]; exact hap
          refine l_nil ?_
          refine hK11 _ _ ?_
          refine fg3 0 2 3 (gS rfl (gS rfl (gS rfl (gS rfl (gS rfl g0))))) (gS rfl (gS rfl (gS rfl (gS rfl g0)))) (gS rfl (gS rfl (gS rfl g0))) (fun g => ?_)
          refine c_seq (fun K13 hK13 => ?_)
          refine c_seq (fun K14 hK14 => ?_)
          exact (by
            refine c_region ?_
            refine l_step (y_moveV (et (gS rfl (gS rfl g0)) rfl)) ?_
            refine l_step (y_loadB agg_25 sz_25 (et (gS rfl g0) rfl) (by rw [List.size_toArray, length_bL, length_be]) (at1B k9)) ?_
            refine l_eff (e_callV cal_294 (aC (et (gS rfl g0) rfl) (aC (et g0 rfl) aN)) (m_warmAcctM hX.ex hsf0 hph0 (ctT f) (Nat.mod_lt _ A160_pos) hap0 (c' := c1) (by omega) (by rw [hs0]; exact hc2))) (fun v15 w15 h15 => ?_)
            obtain ⟨rfl, cl15, cs15, V15, y15, mr15⟩ := h15
            have nc9 := (y15.et.col b9 k9.lt).trans nc9
            have kp15 := hX.ex.vl.kC
            replace k9 := k9.ch y15.et.go.ch (by intro hm; (have e0 := hm); omega)
            replace hX := hX.trans y15
            replace U := U.cc y15.et.go.ch (by intro b hb; exact .inl trivial)
            obtain ⟨s1, hs1⟩ : ∃ s1 : YSt, s1 = cS s0 f := ⟨_, rfl⟩
            replace hX := hX.reS hs1
            have hsf1 : s1.frames = low ++ [f] := by rw [hs1]; exact hsf0
            have hph1 : s1.phase = 1 := by rw [hs1]; exact hph0
            have hac : s1.now.accts = s.now.accts := by rw [hs1, hs0]; rfl
            have hap1 : s1.applied ≤ 4 := by rw [hs1]; exact hap0
            have hnw1 := hX.ex.vl.new
            have hfz1 := hX.ex.vl.fz
            have hht : hasA V15 (ctT f) := hX.ex.hasW (by rw [hs1]; exact (mem_withA _ _ _).2 (.inl rfl))
            have hhf := hX.ex.px.has f (by rw [hsf1]; simp)
            obtain ⟨n8, hn8, hR1⟩ := hX.ex.topF hsf1
            have hmr := mr15
            refine l_step (y_not (et g0 rfl)) ?_
            refine l_nil ?_
            refine hK14 _ _ ?_
            refine fg4 0 2 3 24 (gS rfl (gS rfl (gS rfl (gS rfl (gS rfl (gS rfl g0)))))) (gS rfl (gS rfl (gS rfl (gS rfl (gS rfl g0))))) (gS rfl (gS rfl (gS rfl (gS rfl g0)))) g0 (fun g => ?_)
            refine c_false (et g0 rfl) (by rfl) ?_
            refine c_skip ?_
            refine hK13 _ _ ?_
            refine fg3 0 2 3 (gS rfl (gS rfl (gS rfl g0))) (gS rfl (gS rfl g0)) (gS rfl g0) (fun g => ?_)
            refine c_seq (fun K17 hK17 => ?_)
            exact (by
              refine c_draw Up 11 [(0, true), (1, true), (2, true), (3, true), (4, true), (5, true), (6, true), (7, true), (8, true), (9, true), (10, false), (11, false)] (by kernel_rfl) (fun w18 hu => ⟨Up.refl _, ?_⟩)
              replace k9 := k9.up hu
              replace hX := hX.up hu
              replace U := U.tr hu
              have SU := Up.refl w18
              refine p_step (by exact rfl) (y_moveV (et (gS rfl g0) rfl)) ?_
              refine p_step (by exact rfl) (y_nil (et g0 rfl)) ?_
              refine p_step (by exact rfl) (y_fld fld_71_3 (et g0 rfl)) ?_
              refine p_step (by exact rfl) (y_load1 one_4 (et g0 rfl) (atS (hX.ex.vl.c1 (hR1.r1 3 _ rfl) (by omega)))) ?_
              refine p_step (by exact rfl) (y_loadB agg_25 sz_25 (et (gS rfl (gS rfl (gS rfl (gS rfl g0)))) rfl) (by rw [List.size_toArray, length_bL, length_be]) (atSB k9)) ?_
              refine p_step (by exact rfl) (y_moveV (et (gS rfl (gS rfl (gS rfl (gS rfl (gS rfl (gS rfl g0)))))) rfl)) ?_
              refine p_step (by exact rfl) (y_nil (et g0 rfl)) ?_
              refine p_step (by exact rfl) (y_fld fld_71_9 (et g0 rfl)) ?_
              refine p_step (by exact rfl) (y_loadR agg_25 sz_25 (et g0 rfl) (by rw [length_bL, length_be]) (atSR (hX.ex.vl.kC.rowO hR1.r2 (by omega)))) ?_
              refine p_step (by exact rfl) ((y_bldMC (et (gS rfl (gS rfl (gS rfl (gS rfl (gS rfl g0))))) rfl) (et (gS rfl (gS rfl (gS rfl (gS rfl g0)))) rfl) (et g0 rfl))) ?_
              have hnwN := hX.ex.vl.new
              have hfzN := hX.ex.vl.fz
              refine p_eff (by exact rfl) (e_alloc zr_71) (fun v19 w19 h19 => ?_)
              obtain ⟨b19, rfl, n19⟩ := h19
              have d9_19 : b9 < b19 := Nat.lt_of_lt_of_le k9.lt n19.fresh
              have f19 : w.heap.size ≤ b19 := Nat.le_trans U.size n19.fresh
              have fS19 := Nat.le_trans SU.size n19.fresh
              replace k9 := k9.up n19.up
              replace hX := hX.up n19.up
              replace U := U.tr n19.up
              have k19 := n19.blk
              obtain ⟨zs19, hz19, k19⟩ : ∃ cs : Array Value, cs.size = 65 ∧ Blk w19 b19 cs := ⟨_, rfl, k19⟩
              refine ⟨.inr (SU.tr n19.up), ?_⟩
              replace SU := SU.tr n19.up
              have nc19 := hnwN b19 n19.fresh
              have nh19 : ¬ H.has b19 := fun hh => by have h9 := hfzN.lt hh; have h8 := n19.fresh; omega
              exact (by
                refine p_effN (by exact rfl) (e_store sz_71 (et g0 rfl) (cellsV (et (gS rfl g0) rfl) rfl) (fcv_len rfl) (by exact fcv_one) k19 (by (rw [hz19]; exact Nat.le_refl _))) (fun v20 w20 h20 => ?_)
                obtain ⟨rfl, x20⟩ := h20
                replace k9 := k9.ch x20.ch (by omega)
                replace hX := hX.ch x20.ch (by first | omega | (intro b hb; first | (subst hb; first | exact ⟨by omega, fun hh => by have := hfz.lt hh; omega, by omega⟩ | exact ⟨by omega, by assumption, by omega⟩) | (rcases hb with hb | hb <;> (subst hb; first | exact ⟨by omega, fun hh => by have := hfz.lt hh; omega, by omega⟩ | exact ⟨by omega, by assumption, by omega⟩))))
                replace k19 := x20.blk.full (by rw [hz19, fcv_len rfl])
                replace U := U.st x20 (.inr f19)
                refine ⟨.inl rfl, ?_⟩
                refine p_nil ?_
                refine hK17 _ _ ?_
                refine fg4 0 2 3 4 (gS rfl (gS rfl (gS rfl (gS rfl (gS rfl (gS rfl (gS rfl (gS rfl (gS rfl (gS rfl (gS rfl (gS rfl (gS rfl g0))))))))))))) (gS rfl (gS rfl (gS rfl (gS rfl (gS rfl (gS rfl (gS rfl (gS rfl (gS rfl (gS rfl (gS rfl (gS rfl g0)))))))))))) (gS rfl (gS rfl (gS rfl (gS rfl (gS rfl (gS rfl (gS rfl (gS rfl (gS rfl (gS rfl (gS rfl g0))))))))))) g0 (fun g => ?_)
                refine c_seq (fun K21 hK21 => ?_)
                exact (by
                  refine c_region ?_
                  refine l_step y_assignC ?_
                  refine l_nil ?_
                  refine hK21 _ _ ?_
                  refine c_seq (fun K22 hK22 => ?_)
                  exact (by
                    refine c_region ?_
                    refine l_step (y_bld bN bld65_z) ?_
                    have hnwN := hX.ex.vl.new
                    have hfzN := hX.ex.vl.fz
                    refine l_eff (e_alloc zr_65) (fun v23 w23 h23 => ?_)
                    obtain ⟨b23, rfl, n23⟩ := h23
                    have d9_23 : b9 < b23 := Nat.lt_of_lt_of_le k9.lt n23.fresh
                    have d19_23 : b19 < b23 := Nat.lt_of_lt_of_le k19.lt n23.fresh
                    have f23 : w.heap.size ≤ b23 := Nat.le_trans U.size n23.fresh
                    replace k9 := k9.up n23.up
                    replace k19 := k19.up n23.up
                    replace hX := hX.up n23.up
                    replace U := U.tr n23.up
                    have k23 := n23.blk
                    obtain ⟨zs23, hz23, k23⟩ : ∃ cs : Array Value, cs.size = 4 ∧ Blk w23 b23 cs := ⟨_, rfl, k23⟩
                    have nc23 := hnwN b23 n23.fresh
                    have nh23 : ¬ H.has b23 := fun hh => by have h9 := hfzN.lt hh; have h8 := n23.fresh; omega
                    refine l_effN (e_store sz_65 (et g0 rfl) (cellsV (et (gS rfl g0) rfl) rfl) rfl (by exact one_uL _) k23 (by (first | (rw [hz23]; exact Nat.le_refl _) | (rw [List.size_toArray, wL_len]; exact Nat.le_refl _)))) (fun v24 w24 h24 => ?_)
                    obtain ⟨rfl, x24⟩ := h24
                    replace k9 := k9.ch x24.ch (by omega)
                    replace k19 := k19.ch x24.ch (by omega)
                    replace hX := hX.ch x24.ch (by first | omega | (intro b hb; first | (subst hb; first | exact ⟨by omega, fun hh => by have := hfz.lt hh; omega, by omega⟩ | exact ⟨by omega, by assumption, by omega⟩) | (rcases hb with hb | hb <;> (subst hb; first | exact ⟨by omega, fun hh => by have := hfz.lt hh; omega, by omega⟩ | exact ⟨by omega, by assumption, by omega⟩))))
                    replace k23 := x24.blk.full (by first | (rw [hz23]; rfl) | (rw [List.size_toArray, wL_len, wL_len]))
                    replace U := U.st x24 (.inr f23)
                    refine l_nil ?_
                    refine hK22 _ _ ?_
                    refine fg6 0 2 3 4 5 6 (gS rfl (gS rfl (gS rfl (gS rfl (gS rfl (gS rfl g0)))))) (gS rfl (gS rfl (gS rfl (gS rfl (gS rfl g0))))) (gS rfl (gS rfl (gS rfl (gS rfl g0)))) (gS rfl (gS rfl (gS rfl g0))) (gS rfl (gS rfl g0)) g0 (fun g => ?_)
                    refine c_seq (fun K25 hK25 => ?_)
                    refine c_seq (fun K26 hK26 => ?_)
                    exact (by
                      refine c_region ?_
                      refine l_step (y_moveV (et (gS rfl (gS rfl (gS rfl (gS rfl (gS rfl g0))))) rfl)) ?_
                      refine l_eff (e_callV cal_108 (aC (et g0 rfl) aN) (m_opcode hX.ex hsf1 hph1)) (fun v27 w27 h27 => ?_)
                      obtain ⟨rfl, u27⟩ := h27
                      replace k9 := k9.up u27
                      replace k19 := k19.up u27
                      replace k23 := k23.up u27
                      replace hX := hX.up u27
                      replace U := U.tr u27
                      refine l_nil ?_
                      refine hK26 _ _ ?_
                      refine fg7 0 2 3 4 5 6 39 (gS rfl (gS rfl (gS rfl (gS rfl (gS rfl (gS rfl (gS rfl g0))))))) (gS rfl (gS rfl (gS rfl (gS rfl (gS rfl (gS rfl g0)))))) (gS rfl (gS rfl (gS rfl (gS rfl (gS rfl g0))))) (gS rfl (gS rfl (gS rfl (gS rfl g0)))) (gS rfl (gS rfl (gS rfl g0))) (gS rfl (gS rfl g0)) g0 (fun g => ?_)
                      refine c_block (fun Q28 hQ28 => ?_)
                      refine c_seq (fun K29 hK29 => ?_)
                      exact (by
                        refine c_region ?_
                        refine l_step (y_eql (et g0 rfl) rfl) ?_
                        refine l_step (y_assignV (et g0 rfl)) ?_
                        refine l_nil ?_
                        refine hK29 _ _ ?_
                        refine fg8 0 2 3 4 5 6 39 40 (gS rfl (gS rfl (gS rfl (gS rfl (gS rfl (gS rfl (gS rfl (gS rfl g0)))))))) (gS rfl (gS rfl (gS rfl (gS rfl (gS rfl (gS rfl (gS rfl g0))))))) (gS rfl (gS rfl (gS rfl (gS rfl (gS rfl (gS rfl g0)))))) (gS rfl (gS rfl (gS rfl (gS rfl (gS rfl g0))))) (gS rfl (gS rfl (gS rfl (gS rfl g0)))) (gS rfl (gS rfl (gS rfl g0))) (gS rfl (gS rfl g0)) g0 (fun g => ?_)
                        refine c_true (et g0 rfl) (by (exact decide_eq_true (by omega))) ?_
                        refine c_seq (fun K31 hK31 => ?_)
                        exact (by
                          refine c_region ?_
                          refine l_step y_assignC ?_
                          refine l_nil ?_
                          refine hK31 _ _ ?_
                          refine fg6 0 2 3 4 5 6 (gS rfl (gS rfl (gS rfl (gS rfl (gS rfl (gS rfl (gS rfl (gS rfl g0)))))))) (gS rfl (gS rfl (gS rfl (gS rfl (gS rfl (gS rfl (gS rfl g0))))))) (gS rfl (gS rfl (gS rfl (gS rfl (gS rfl (gS rfl g0)))))) (gS rfl (gS rfl (gS rfl (gS rfl (gS rfl g0))))) g0 (gS rfl (gS rfl (gS rfl g0))) (fun g => ?_)
                          refine c_seq (fun K32 hK32 => ?_)
                          exact (by
                            refine c_region ?_
                            refine l_step (y_moveV (et (gS rfl (gS rfl (gS rfl (gS rfl (gS rfl g0))))) rfl)) ?_
                            refine l_step (y_moveV (et (gS rfl (gS rfl (gS rfl (gS rfl (gS rfl g0))))) rfl)) ?_
                            refine l_eff (e_callV cal_264 (aC (et (gS rfl g0) rfl) (aC (et g0 rfl) (aC (v := .int .i64 ((2 : Nat) : Int)) rfl aN))) (m_arg hX.ex hsf1 hph1 rfl 2 (by decide))) (fun v33 w33 h33 => ?_)
                            obtain ⟨rfl, u33⟩ := h33
                            replace k9 := k9.up u33
                            replace k19 := k19.up u33
                            replace k23 := k23.up u33
                            replace hX := hX.up u33
                            replace U := U.tr u33
                            refine l_effN (e_store sz_65 (et (gS rfl (gS rfl (gS rfl g0))) rfl) (cellsV (et g0 rfl) rfl) rfl (by exact one_uL _) k23 (by (first | (rw [hz23]; exact Nat.le_refl _) | (rw [List.size_toArray, wL_len]; exact Nat.le_refl _)))) (fun v34 w34 h34 => ?_)
                            obtain ⟨rfl, x34⟩ := h34
                            replace k9 := k9.ch x34.ch (by omega)
                            replace k19 := k19.ch x34.ch (by omega)
                            replace hX := hX.ch x34.ch (by first | omega | (intro b hb; first | (subst hb; first | exact ⟨by omega, fun hh => by have := hfz.lt hh; omega, by omega⟩ | exact ⟨by omega, by assumption, by omega⟩) | (rcases hb with hb | hb <;> (subst hb; first | exact ⟨by omega, fun hh => by have := hfz.lt hh; omega, by omega⟩ | exact ⟨by omega, by assumption, by omega⟩))))
                            replace k23 := x34.blk.full (by first | (rw [hz23]; rfl) | (rw [List.size_toArray, wL_len, wL_len]))
                            replace U := U.st x34 (.inr f23)
                            refine l_nil ?_
                            refine hK32 _ _ ?_
                            refine fg6 0 2 3 4 5 6 (gS rfl (gS rfl (gS rfl (gS rfl (gS rfl (gS rfl (gS rfl (gS rfl g0)))))))) (gS rfl (gS rfl (gS rfl (gS rfl (gS rfl (gS rfl (gS rfl g0))))))) (gS rfl (gS rfl (gS rfl (gS rfl (gS rfl (gS rfl g0)))))) (gS rfl (gS rfl (gS rfl (gS rfl (gS rfl g0))))) (gS rfl (gS rfl (gS rfl (gS rfl g0)))) (gS rfl (gS rfl (gS rfl g0))) (fun g => ?_)
                            refine c_region ?_
                            refine l_step (y_loadB agg_65 sz_65 (et g0 rfl) rfl (at1B k23)) ?_
                            refine l_step (y_fld fld_71_11 (et (gS rfl (gS rfl (gS rfl g0))) rfl)) ?_
                            refine l_effN (e_store sz_65 (et g0 rfl) (cellsV (et (gS rfl g0) rfl) rfl) (wL_len _) (by exact one_uL _) k19 (by (rw [List.size_toArray, fcv_len rfl]; decide))) (fun v35 w35 h35 => ?_)
                            obtain ⟨rfl, x35⟩ := h35
                            replace k9 := k9.ch x35.ch (by omega)
                            replace k23 := k23.ch x35.ch (by omega)
                            replace hX := hX.ch x35.ch (by first | omega | (intro b hb; first | (subst hb; first | exact ⟨by omega, fun hh => by have := hfz.lt hh; omega, by omega⟩ | exact ⟨by omega, by assumption, by omega⟩) | (rcases hb with hb | hb <;> (subst hb; first | exact ⟨by omega, fun hh => by have := hfz.lt hh; omega, by omega⟩ | exact ⟨by omega, by assumption, by omega⟩))))
                            replace k19 := x35.blk
                            replace U := U.st x35 (.inr f19)
                            replace k19 := Blk.fva (q := _) k19
                            refine l_nil ?_
                            refine hQ28 _ _ _ (in_normal ?_)
                            refine hK25 _ _ ?_
                            refine fg6 0 2 3 4 5 6 (gS rfl (gS rfl (gS rfl (gS rfl (gS rfl (gS rfl (gS rfl g0))))))) (gS rfl (gS rfl (gS rfl (gS rfl (gS rfl (gS rfl g0)))))) (gS rfl (gS rfl (gS rfl (gS rfl (gS rfl g0))))) (gS rfl (gS rfl (gS rfl (gS rfl g0)))) (gS rfl (gS rfl (gS rfl g0))) (gS rfl (gS rfl g0)) (fun g => ?_)
                            refine c_seq (fun K36 hK36 => ?_)
                            exact (by
                              refine c_draw Up 9 [(0, true), (1, true), (2, true), (3, true), (4, true), (5, true), (6, false), (7, false), (8, true), (9, false)] (by kernel_rfl) (fun w37 hu => ⟨Up.refl _, ?_⟩)
                              replace k9 := k9.up hu
                              replace k19 := k19.up hu
                              replace k23 := k23.up hu
                              replace hX := hX.up hu
                              replace U := U.tr hu
                              have SU := Up.refl w37
                              refine p_step (by exact rfl) (y_moveV (et (gS rfl (gS rfl (gS rfl (gS rfl g0)))) rfl)) ?_
                              refine p_step (by exact rfl) (y_nil (et g0 rfl)) ?_
                              refine p_step (by exact rfl) (y_fld fld_71_7 (et g0 rfl)) ?_
                              refine p_step (by exact rfl) (y_load1 one_26 (et g0 rfl) (atS (hX.ex.vl.c1 (hR1.r1 7 _ rfl) (by omega)))) ?_
                              refine p_step (by exact rfl) (y_moveV (et (gS rfl (gS rfl (gS rfl (gS rfl (gS rfl (gS rfl (gS rfl (gS rfl (gS rfl g0))))))))) rfl)) ?_
                              refine p_step (by exact rfl) (y_moveV (et (gS rfl (gS rfl (gS rfl (gS rfl (gS rfl (gS rfl (gS rfl (gS rfl (gS rfl g0))))))))) rfl)) ?_
                              refine p_eff (by exact rfl) (e_callV cal_264 (aC (et (gS rfl g0) rfl) (aC (et g0 rfl) (aC (v := .int .i64 ((0 : Nat) : Int)) rfl aN))) (m_arg hX.ex hsf1 hph1 rfl 0 (by decide))) (fun v38 w38 h38 => ?_)
                              obtain ⟨rfl, u38⟩ := h38
                              replace k9 := k9.up u38
                              replace k19 := k19.up u38
                              replace k23 := k23.up u38
                              replace hX := hX.up u38
                              replace U := U.tr u38
                              refine ⟨.inr (SU.tr u38), ?_⟩
                              replace SU := SU.tr u38
                              refine p_eff (by exact rfl) (e_callV cal_315 (aC (et (gS rfl (gS rfl (gS rfl g0))) rfl) (aC (et g0 rfl) aN)) (mach_sentGas _ _ _ (by omega) (argN_lt hB _))) (fun v39 w39 h39 => ?_)
                              obtain ⟨rfl, u39⟩ := h39
                              replace k9 := k9.up u39
                              replace k19 := k19.up u39
                              replace k23 := k23.up u39
                              replace hX := hX.up u39
                              replace U := U.tr u39
                              refine ⟨.inr (SU.tr u39), ?_⟩
                              replace SU := SU.tr u39
                              exact (by
                                refine p_step (by exact rfl) (y_fld fld_71_7 (et (gS rfl (gS rfl (gS rfl (gS rfl (gS rfl (gS rfl (gS rfl (gS rfl (gS rfl (gS rfl g0)))))))))) rfl)) ?_
                                refine p_effN (by exact rfl) (e_store sz_26 (et g0 rfl) (cellsV (et (gS rfl g0) rfl) rfl) rfl (by first | exact one_bL _ | exact one_uL _ | (intro v hv; simp at hv; subst hv; rfl)) k19 (by (rw [List.size_toArray, fcv_len rfl]; decide))) (fun v40 w40 h40 => ?_)
                                obtain ⟨rfl, x40⟩ := h40
                                replace k9 := k9.ch x40.ch (by omega)
                                replace k23 := k23.ch x40.ch (by omega)
                                replace hX := hX.ch x40.ch (by first | omega | (intro b hb; first | (subst hb; first | exact ⟨by omega, fun hh => by have := hfz.lt hh; omega, by omega⟩ | exact ⟨by omega, by assumption, by omega⟩) | (rcases hb with hb | hb <;> (subst hb; first | exact ⟨by omega, fun hh => by have := hfz.lt hh; omega, by omega⟩ | exact ⟨by omega, by assumption, by omega⟩))))
                                replace k19 := x40.blk
                                replace U := U.st x40 (.inr f19)
                                refine ⟨.inl rfl, ?_⟩
                                replace k19 := Blk.fgs (q := _) k19
                                replace k19 : Blk w40 b19 (fcv (cFr 2 f.static (argN f.stack 2) (ctT f) f.self (sentN f.gas (argN f.stack 0)) 0 [] []) (.slice none 0 0) (.slice none 0 0) 0 0 0 (List.replicate 8 0)).toArray := k19
                                have hsl := sent_le f.gas (argN f.stack 0)
                                refine p_nil ?_
                                refine hK36 _ _ ?_
                                refine fg6 0 2 3 4 5 6 (gS rfl (gS rfl (gS rfl (gS rfl (gS rfl (gS rfl (gS rfl (gS rfl (gS rfl (gS rfl (gS rfl (gS rfl (gS rfl (gS rfl g0)))))))))))))) (gS rfl (gS rfl (gS rfl (gS rfl (gS rfl (gS rfl (gS rfl (gS rfl (gS rfl (gS rfl (gS rfl (gS rfl (gS rfl g0))))))))))))) (gS rfl (gS rfl (gS rfl (gS rfl (gS rfl (gS rfl (gS rfl (gS rfl (gS rfl (gS rfl (gS rfl (gS rfl g0)))))))))))) (gS rfl (gS rfl (gS rfl (gS rfl (gS rfl (gS rfl (gS rfl (gS rfl (gS rfl (gS rfl (gS rfl g0))))))))))) (gS rfl (gS rfl (gS rfl (gS rfl (gS rfl (gS rfl (gS rfl (gS rfl (gS rfl (gS rfl g0)))))))))) (gS rfl (gS rfl (gS rfl (gS rfl (gS rfl (gS rfl (gS rfl (gS rfl (gS rfl g0))))))))) (fun g => ?_)
                                refine c_seq (fun K41 hK41 => ?_)
                                exact (by
                                  refine c_draw Up 9 [(0, true), (1, true), (2, true), (3, true), (4, true), (5, true), (6, true), (7, true), (8, true), (9, false)] (by kernel_rfl) (fun w42 hu => ⟨Up.refl _, ?_⟩)
                                  replace k9 := k9.up hu
                                  replace k19 := k19.up hu
                                  replace k23 := k23.up hu
                                  replace hX := hX.up hu
                                  replace U := U.tr hu
                                  have SU := Up.refl w42
                                  refine p_step (by exact rfl) (y_moveV (et (gS rfl (gS rfl (gS rfl (gS rfl g0)))) rfl)) ?_
                                  refine p_step (by exact rfl) (y_nil (et g0 rfl)) ?_
                                  refine p_step (by exact rfl) (y_fld fld_71_7 (et g0 rfl)) ?_
                                  refine p_step (by exact rfl) (y_load1 one_26 (et g0 rfl) (atS (hX.ex.vl.c1 (hR1.r1 7 _ rfl) (by omega)))) ?_
                                  refine p_step (by exact rfl) (y_fld fld_71_7 (et (gS rfl (gS rfl (gS rfl (gS rfl (gS rfl (gS rfl g0)))))) rfl)) ?_
                                  refine p_step (by exact rfl) (y_load1 one_26 (et g0 rfl) (atS (k19.cell (show _ = some (Value.int .u64 ((sentN f.gas (argN f.stack 0)) : Nat)) from rfl)))) ?_
                                  refine p_step (by exact rfl) (y_sub (et (gS rfl (gS rfl g0)) rfl) (et g0 rfl) (wrapU_subN uk64 ?_ ?_)) ?_
                                  omega
                                  omega
                                  refine p_step (by exact rfl) (y_nil (et (gS rfl (gS rfl (gS rfl (gS rfl (gS rfl (gS rfl g0)))))) rfl)) ?_
                                  refine p_step (by exact rfl) (y_fld fld_71_7 (et g0 rfl)) ?_
                                  refine p_effN (by exact rfl) (e_store sz_26 (et g0 rfl) (cellsV (et (gS rfl (gS rfl g0)) rfl) rfl) rfl (by intro v hv; simp at hv; subst hv; rfl) hX.ex.vl.kC (by rw [hX.ex.vl.size]; omega)) (fun v43 w43 h43 => ?_)
                                  obtain ⟨rfl, x43⟩ := h43
                                  have hv43 := hX.stGas hsf1 hph1 (p := f.gas - (sentN f.gas (argN f.stack 0))) (c' := c1 + (sentN f.gas (argN f.stack 0))) (by omega) (by omega) (by omega) x43
                                  replace k9 := k9.ch x43.ch (by intro hm; first | omega | (subst hm; omega))
                                  replace k19 := k19.ch x43.ch (by intro hm; first | omega | (subst hm; omega))
                                  replace k23 := k23.ch x43.ch (by intro hm; first | omega | (subst hm; omega))
                                  replace hX := hv43
                                  replace U := U.cc x43.ch (by intro b hb; exact .inl trivial)
                                  have hsk : f.stack = f.stack := rfl
                                  obtain ⟨f2, hf2⟩ : ∃ f2 : YF, f2 = { f with gas := f.gas - (sentN f.gas (argN f.stack 0)) } := ⟨_, rfl⟩
                                  obtain ⟨s2, hs2⟩ : ∃ s2 : YSt, s2 = { s1 with frames := low ++ [f2] } := ⟨_, rfl⟩
                                  replace hX := hX.reS (show s2 = { s1 with frames := low ++ [{ f with gas := f.gas - (sentN f.gas (argN f.stack 0)) }] } by rw [hs2, hf2])
                                  have hsf2 : s2.frames = low ++ [f2] := by rw [hs2]
                                  have hph2 : s2.phase = 1 := by rw [hs2]; exact hph1
                                  have hsk2 : f2.stack = f.stack := by first | (rw [hf2]; done) | (rw [hf2]; exact hsk)
                                  obtain ⟨n7, hn7, hR2⟩ := hX.ex.topF hsf2
                                  have hg2 : f2.gas = f.gas - (sentN f.gas (argN f.stack 0)) := by rw [hf2]
                                  have hse2 : f2.self = f.self := by rw [hf2]
                                  have hac2 : s2.now.accts = s.now.accts := by rw [hs2]; exact hac
                                  have hap2 : s2.applied ≤ 4 := by rw [hs2]; exact hap1
                                  refine ⟨.inl rfl, ?_⟩
                                  refine p_nil ?_
                                  refine hK41 _ _ ?_
                                  refine fg6 0 2 3 4 5 6 (gS rfl (gS rfl (gS rfl (gS rfl (gS rfl (gS rfl (gS rfl (gS rfl (gS rfl (gS rfl (gS rfl (gS rfl (gS rfl (gS rfl g0)))))))))))))) (gS rfl (gS rfl (gS rfl (gS rfl (gS rfl (gS rfl (gS rfl (gS rfl (gS rfl (gS rfl (gS rfl (gS rfl (gS rfl g0))))))))))))) (gS rfl (gS rfl (gS rfl (gS rfl (gS rfl (gS rfl (gS rfl (gS rfl (gS rfl (gS rfl (gS rfl (gS rfl g0)))))))))))) (gS rfl (gS rfl (gS rfl (gS rfl (gS rfl (gS rfl (gS rfl (gS rfl (gS rfl (gS rfl (gS rfl g0))))))))))) (gS rfl (gS rfl (gS rfl (gS rfl (gS rfl (gS rfl (gS rfl (gS rfl (gS rfl (gS rfl g0)))))))))) (gS rfl (gS rfl (gS rfl (gS rfl (gS rfl (gS rfl (gS rfl (gS rfl (gS rfl g0))))))))) (fun g => ?_)
                                  refine c_seq (fun K44 hK44 => ?_)
                                  have hJ44 : ∀ (s_ : Nat → Value) (W44 : World), (∃ (g : Nat → Value), s_ = (upd (upd (upd (upd (upd (upd g 0 (.pointer (some ⟨bc, 0, none⟩))) 2 (.pointer (some ⟨bc, 1803 + 65 * low.length, none⟩))) 3 (.pointer (some ⟨b9, 0, none⟩))) 4 (.pointer (some ⟨b19, 0, none⟩))) 5 (.int .i64 3)) 6 (.pointer (some ⟨b23, 0, none⟩))) ∧ Blk W44 b19 ((fcv (cFr 2 f.static (argN f.stack 2) (ctT f) f.self (cG f 241) 0 [] []) (.slice none 0 0) (.slice none 0 0) 0 0 0 (List.replicate 8 0)).toArray) ∧ Ch (fun k => k = b19) w43 W44) → K44 (mk 212 s_) W44 := by
                                    intro s_ W44 hI
                                    obtain ⟨g, rfl, nk19, V44⟩ := hI
                                    replace k9 := k9.ch V44 (by omega)
                                    replace k23 := k23.ch V44 (by omega)
                                    replace hX := hX.ch V44 (by intro b hb; first | (subst hb; first | exact ⟨by omega, fun hh => by have := hfz.lt hh; omega, by omega⟩ | exact ⟨by omega, by assumption, by omega⟩) | (rcases hb with hb | hb <;> (subst hb; first | exact ⟨by omega, fun hh => by have := hfz.lt hh; omega, by omega⟩ | exact ⟨by omega, by assumption, by omega⟩)))
                                    replace k19 := nk19
                                    replace U := U.cc V44 (by intro b hb; first | exact hb.elim | omega | (simp at hb ⊢; omega))
                                    have hcg : cG f 241 ≤ (sentN f.gas (argN f.stack 0)) + 2300 := by unfold cG cSent; split; omega; omega
                                    refine hK44 _ _ ?_
                                    refine c_seq (fun K45 hK45 => ?_)
                                    refine c_seq (fun K46 hK46 => ?_)
                                    exact (by
                                      refine c_draw Up 18 [(0, true), (1, true), (2, true), (3, true), (4, true), (5, true), (6, true), (7, true), (8, true), (9, true), (10, true), (11, true), (12, true), (13, true), (15, true), (14, false), (16, false), (17, true)] (by kernel_rfl) (fun w47 hu => ⟨Up.refl _, ?_⟩)
                                      replace k9 := k9.up hu
                                      replace k19 := k19.up hu
                                      replace k23 := k23.up hu
                                      replace hX := hX.up hu
                                      replace U := U.tr hu
                                      have SU := Up.refl w47
                                      refine p_step (by exact rfl) (y_moveV (et (gS rfl (gS rfl (gS rfl (gS rfl (gS rfl g0))))) rfl)) ?_
                                      refine p_step (by exact rfl) (y_nil (et g0 rfl)) ?_
                                      refine p_step (by exact rfl) (y_fld fld_75_4 (et g0 rfl)) ?_
                                      refine p_step (by exact rfl) (y_load1 one_73 (et g0 rfl) (atS (hX.ex.vl.c1 (hX.ex.cTop hsf2) (by omega)))) ?_
                                      refine p_step (by exact rfl) (y_geq (et g0 rfl) rfl) ?_
                                      refine p_step (by exact rfl) (y_moveV (et g0 rfl)) ?_
                                      refine gsplitP (i := 112) g0 (fun q48 => ?_) (fun q48 => ?_)
                                      · skip
                                        have hd6 : 6 ≤ low.length := by have := of_decide_eq_true q48; omega
                                        refine p_gskip (j := 5) (t := 112) (by exact rfl) (by exact rfl) (by exact rfl) (et g0 rfl) rfl rfl ?_
                                        refine p_gskip (j := 5) (t := 112) (by exact rfl) (by exact rfl) (by exact rfl) (et (gS rfl g0) rfl) rfl rfl ?_
                                        refine p_gskip (j := 5) (t := 112) (by exact rfl) (by exact rfl) (by exact rfl) (et (gS rfl (gS rfl g0)) rfl) rfl rfl ?_
                                        refine p_gskip (j := 5) (t := 112) (by exact rfl) (by exact rfl) (by exact rfl) (et (gS rfl (gS rfl (gS rfl g0))) rfl) rfl rfl ?_
                                        refine p_gskip (j := 5) (t := 112) (by exact rfl) (by exact rfl) (by exact rfl) (et (gS rfl (gS rfl (gS rfl (gS rfl g0)))) rfl) rfl rfl ?_
                                        refine p_gskip (j := 5) (t := 112) (by exact rfl) (by exact rfl) (by exact rfl) (et (gS rfl (gS rfl (gS rfl (gS rfl (gS rfl g0))))) rfl) rfl rfl ?_
                                        refine p_gskip (j := 5) (t := 112) (by exact rfl) (by exact rfl) (by exact rfl) (et (gS rfl (gS rfl (gS rfl (gS rfl (gS rfl (gS rfl g0)))))) rfl) rfl rfl ?_
                                        refine p_gskip (j := 5) (t := 112) (by exact rfl) (by exact rfl) (by exact rfl) (et (gS rfl (gS rfl (gS rfl (gS rfl (gS rfl (gS rfl (gS rfl g0))))))) rfl) rfl rfl ?_
                                        refine p_gskip (j := 5) (t := 112) (by exact rfl) (by exact rfl) (by exact rfl) (et (gS rfl (gS rfl (gS rfl (gS rfl (gS rfl (gS rfl (gS rfl (gS rfl g0)))))))) rfl) rfl rfl ?_
                                        refine p_geskip (j := 5) (t := 112) (by exact rfl) (by exact rfl) (by exact rfl) (et (gS rfl (gS rfl (gS rfl (gS rfl (gS rfl (gS rfl (gS rfl (gS rfl (gS rfl g0))))))))) rfl) rfl rfl ⟨.inr SU, ?_⟩
                                        refine p_geskip (j := 5) (t := 112) (by exact rfl) (by exact rfl) (by exact rfl) (et (gS rfl (gS rfl (gS rfl (gS rfl (gS rfl (gS rfl (gS rfl (gS rfl (gS rfl (gS rfl g0)))))))))) rfl) rfl rfl ⟨.inr SU, ?_⟩
                                        refine p_step (by exact rfl) (y_pickT (et (gS rfl (gS rfl (gS rfl (gS rfl (gS rfl (gS rfl (gS rfl (gS rfl (gS rfl (gS rfl (gS rfl g0))))))))))) rfl) rfl) ?_
                                        refine p_nil ?_
                                        refine hK46 _ _ ?_
                                        refine fg6 0 2 3 4 5 124 (gS rfl (gS rfl (gS rfl (gS rfl (gS rfl (gS rfl (gS rfl (gS rfl (gS rfl (gS rfl (gS rfl (gS rfl (gS rfl (gS rfl (gS rfl (gS rfl (gS rfl (gS rfl (gS rfl (gS rfl (gS rfl (gS rfl (gS rfl (gS rfl g0)))))))))))))))))))))))) (gS rfl (gS rfl (gS rfl (gS rfl (gS rfl (gS rfl (gS rfl (gS rfl (gS rfl (gS rfl (gS rfl (gS rfl (gS rfl (gS rfl (gS rfl (gS rfl (gS rfl (gS rfl (gS rfl (gS rfl (gS rfl (gS rfl (gS rfl g0))))))))))))))))))))))) (gS rfl (gS rfl (gS rfl (gS rfl (gS rfl (gS rfl (gS rfl (gS rfl (gS rfl (gS rfl (gS rfl (gS rfl (gS rfl (gS rfl (gS rfl (gS rfl (gS rfl (gS rfl (gS rfl (gS rfl (gS rfl (gS rfl g0)))))))))))))))))))))) (gS rfl (gS rfl (gS rfl (gS rfl (gS rfl (gS rfl (gS rfl (gS rfl (gS rfl (gS rfl (gS rfl (gS rfl (gS rfl (gS rfl (gS rfl (gS rfl (gS rfl (gS rfl (gS rfl (gS rfl (gS rfl g0))))))))))))))))))))) (gS rfl (gS rfl (gS rfl (gS rfl (gS rfl (gS rfl (gS rfl (gS rfl (gS rfl (gS rfl (gS rfl (gS rfl (gS rfl (gS rfl (gS rfl (gS rfl (gS rfl (gS rfl (gS rfl (gS rfl g0)))))))))))))))))))) g0 (fun g => ?_)
                                        refine c_true (et g0 rfl) rfl ?_
                                        refine c_seq (fun K50 hK50 => ?_)
                                        exact (by
                                          refine c_draw Up 9 [(0, true), (1, true), (2, true), (3, true), (4, true), (5, true), (6, true), (7, true), (8, true), (9, false)] (by kernel_rfl) (fun w51 hu => ⟨Up.refl _, ?_⟩)
                                          replace k9 := k9.up hu
                                          replace k19 := k19.up hu
                                          replace k23 := k23.up hu
                                          replace hX := hX.up hu
                                          replace U := U.tr hu
                                          have SU := Up.refl w51
                                          refine p_step (by exact rfl) (y_moveV (et (gS rfl (gS rfl (gS rfl (gS rfl g0)))) rfl)) ?_
                                          refine p_step (by exact rfl) (y_nil (et g0 rfl)) ?_
                                          refine p_step (by exact rfl) (y_fld fld_71_7 (et g0 rfl)) ?_
                                          refine p_step (by exact rfl) (y_load1 one_26 (et g0 rfl) (atS (hX.ex.vl.c1 (hR2.r1 7 _ rfl) (by omega)))) ?_
                                          refine p_step (by exact rfl) (y_fld fld_71_7 (et (gS rfl (gS rfl (gS rfl (gS rfl (gS rfl (gS rfl g0)))))) rfl)) ?_
                                          refine p_step (by exact rfl) (y_load1 one_26 (et g0 rfl) (atS (k19.cell (show _ = some (Value.int .u64 (cG f 241 : Nat)) from rfl)))) ?_
                                          refine p_step (by exact rfl) (y_add (et (gS rfl (gS rfl g0)) rfl) (et g0 rfl) (wrapU_addN uk64 ?_)) ?_
                                          omega
                                          refine p_step (by exact rfl) (y_nil (et (gS rfl (gS rfl (gS rfl (gS rfl (gS rfl (gS rfl g0)))))) rfl)) ?_
                                          refine p_step (by exact rfl) (y_fld fld_71_7 (et g0 rfl)) ?_
                                          refine p_effN (by exact rfl) (e_store sz_26 (et g0 rfl) (cellsV (et (gS rfl (gS rfl g0)) rfl) rfl) rfl (by intro v hv; simp at hv; subst hv; rfl) hX.ex.vl.kC (by rw [hX.ex.vl.size]; omega)) (fun v52 w52 h52 => ?_)
                                          obtain ⟨rfl, x52⟩ := h52
                                          have hv52 := hX.stGas hsf2 hph2 (p := f2.gas + cG f 241) (c' := c') (by omega) (by omega) (by omega) x52
                                          replace k9 := k9.ch x52.ch (by intro hm; first | omega | (subst hm; omega))
                                          replace k19 := k19.ch x52.ch (by intro hm; first | omega | (subst hm; omega))
                                          replace k23 := k23.ch x52.ch (by intro hm; first | omega | (subst hm; omega))
                                          replace hX := hv52
                                          replace U := U.cc x52.ch (by intro b hb; exact .inl trivial)
                                          obtain ⟨f3, hf3⟩ : ∃ f3 : YF, f3 = { f2 with gas := f2.gas + cG f 241 } := ⟨_, rfl⟩
                                          obtain ⟨s3, hs3⟩ : ∃ s3 : YSt, s3 = { s2 with frames := low ++ [f3] } := ⟨_, rfl⟩
                                          replace hX := hX.reS (show s3 = { s2 with frames := low ++ [{ f2 with gas := f2.gas + cG f 241 }] } by rw [hs3, hf3])
                                          have hsf3 : s3.frames = low ++ [f3] := by rw [hs3]
                                          have hph3 : s3.phase = 1 := by rw [hs3]; exact hph2
                                          have hsk3 : f3.stack = f.stack := by first | (rw [hf3]; done) | (rw [hf3]; exact hsk2)
                                          refine ⟨.inl rfl, ?_⟩
                                          refine p_nil ?_
                                          refine hK50 _ _ ?_
                                          refine fg3 0 2 5 (gS rfl (gS rfl (gS rfl (gS rfl (gS rfl (gS rfl (gS rfl (gS rfl (gS rfl (gS rfl (gS rfl (gS rfl (gS rfl (gS rfl g0)))))))))))))) (gS rfl (gS rfl (gS rfl (gS rfl (gS rfl (gS rfl (gS rfl (gS rfl (gS rfl (gS rfl (gS rfl (gS rfl (gS rfl g0))))))))))))) (gS rfl (gS rfl (gS rfl (gS rfl (gS rfl (gS rfl (gS rfl (gS rfl (gS rfl (gS rfl g0)))))))))) (fun g => ?_)
                                          refine c_seq (fun K53 hK53 => ?_)
                                          exact (by
                                            refine c_region ?_
                                            refine l_step (y_moveV (et (gS rfl (gS rfl g0)) rfl)) ?_
                                            refine l_step (y_moveV (et (gS rfl (gS rfl g0)) rfl)) ?_
                                            refine l_step (y_moveV (et (gS rfl (gS rfl g0)) rfl)) ?_
                                            refine l_step (y_add (et g0 rfl) rfl (addIN (x := 3) (y := 4) ?_)) ?_
                                            omega
                                            refine l_step (y_conv Hvaa.underlying3 Hvaa.underlying67 (et g0 rfl) (wrapU_id uk16 ?_)) ?_
                                            omega
                                            refine l_step (y_bld bN bld65_z) ?_
                                            refine l_eff (e_callV cal_259 (aC (et (gS rfl (gS rfl (gS rfl (gS rfl (gS rfl g0))))) rfl) (aC (et (gS rfl (gS rfl (gS rfl (gS rfl g0)))) rfl) (aC (et (gS rfl g0) rfl) (aC rfl (aC (et g0 rfl) (aC (v := .int .u16 ((1 : Nat) : Int)) rfl aN)))))) (m_settle1 hX.ex hsf3 hph3 rfl 7 _ 1 (by rw [hsk3]; omega) (by decide) (by rw [hf3, hf2]; show f.pc + 1 ≤ 560; omega) (by rw [hsk3]; omega))) (fun v54 w54 h54 => ?_)
                                            obtain ⟨rfl, cs54, y54⟩ := h54
                                            replace k9 := k9.ch y54.et.go.ch (by intro hm; (have e0 := hm); omega)
                                            replace k19 := k19.ch y54.et.go.ch (by intro hm; (have e0 := hm); omega)
                                            replace k23 := k23.ch y54.et.go.ch (by intro hm; (have e0 := hm); omega)
                                            replace hX := hX.trans y54
                                            replace U := U.cc y54.et.go.ch (by intro b hb; exact .inl trivial)
                                            refine l_nil ?_
                                            refine hK53 _ _ ?_
                                            refine fg0 (fun g => ?_)
                                            refine c_ret ?_
                                            repeat with_reducible refine then_ret ?_
                                            refine ret0 rfl ?_
                                            have hfl : cFail { s with ret := [] } f 241 low.length := .inl hd6
                                            rw [set_ans, hf3, hf2, hs3, hs2, hs1, hs0] at hX
                                            rw [show callY { s with ret := [] } f 241 low = { cS { s with ret := [] } f with frames := low ++ [cBack f 241] } from if_pos hfl]
                                            refine ⟨rfl, XO.of hX ?_⟩
                                            rw [hms]
                                            show _ = (low ++ [cBack f 241]).map _
                                            rw [List.map_append, List.map_append]
                                            rfl))
                                      · skip
                                        have hd6 : ¬ 6 ≤ low.length := by have := of_decide_eq_false q48; omega
                                        refine p_gstep (j := 5) (t := 112) (by exact rfl) (by exact rfl) (by exact rfl) (et g0 rfl) rfl (y_moveV (et (gS rfl (gS rfl (gS rfl (gS rfl (gS rfl (gS rfl (gS rfl (gS rfl (gS rfl (gS rfl (gS rfl (gS rfl g0)))))))))))) rfl)) ?_
                                        refine p_gstep (j := 5) (t := 112) (by exact rfl) (by exact rfl) (by exact rfl) (et (gS rfl g0) rfl) rfl (y_nil (et g0 rfl)) ?_
                                        refine p_gstep (j := 5) (t := 112) (by exact rfl) (by exact rfl) (by exact rfl) (et (gS rfl (gS rfl g0)) rfl) rfl (y_fld fld_75_0 (et g0 rfl)) ?_
                                        refine p_gstep (j := 5) (t := 112) (by exact rfl) (by exact rfl) (by exact rfl) (et (gS rfl (gS rfl (gS rfl g0))) rfl) rfl (y_load1 one_59 (et g0 rfl) (atS (hX.ex.vl.c1 hX.ex.lx.pS rfl))) ?_
                                        refine p_gstep (j := 5) (t := 112) (by exact rfl) (by exact rfl) (by exact rfl) (et (gS rfl (gS rfl (gS rfl (gS rfl g0)))) rfl) rfl (y_moveV (et (gS rfl (gS rfl (gS rfl (gS rfl (gS rfl (gS rfl (gS rfl (gS rfl (gS rfl (gS rfl (gS rfl (gS rfl (gS rfl (gS rfl (gS rfl g0))))))))))))))) rfl)) ?_
                                        refine p_gstep (j := 5) (t := 112) (by exact rfl) (by exact rfl) (by exact rfl) (et (gS rfl (gS rfl (gS rfl (gS rfl (gS rfl g0))))) rfl) rfl (y_nil (et g0 rfl)) ?_
                                        refine p_gstep (j := 5) (t := 112) (by exact rfl) (by exact rfl) (by exact rfl) (et (gS rfl (gS rfl (gS rfl (gS rfl (gS rfl (gS rfl g0)))))) rfl) rfl (y_fld fld_71_9 (et g0 rfl)) ?_
                                        refine p_gstep (j := 5) (t := 112) (by exact rfl) (by exact rfl) (by exact rfl) (et (gS rfl (gS rfl (gS rfl (gS rfl (gS rfl (gS rfl (gS rfl g0))))))) rfl) rfl (y_loadR agg_25 sz_25 (et g0 rfl) (by rw [length_bL, length_be]) (atSR (hX.ex.vl.kC.rowO hR2.r2 (by omega)))) ?_
                                        refine p_gstep (j := 5) (t := 112) (by exact rfl) (by exact rfl) (by exact rfl) (et (gS rfl (gS rfl (gS rfl (gS rfl (gS rfl (gS rfl (gS rfl (gS rfl g0)))))))) rfl) rfl (y_loadB agg_65 sz_65 (et (gS rfl (gS rfl (gS rfl (gS rfl (gS rfl (gS rfl (gS rfl (gS rfl (gS rfl (gS rfl (gS rfl (gS rfl (gS rfl (gS rfl (gS rfl g0))))))))))))))) rfl) rfl (atSB k23)) ?_
                                        have hB2s : f2.self < A160 := by rw [hse2]; exact hB.self
                                        have hbal2 : (acctAt s2.now.accts f2.self).bal < W256 := by have h9 := hX.ex.balt f2.self; rw [hX.ex.bl] at h9; exact h9
                                        refine p_geff (j := 5) (t := 112) (by exact rfl) (by exact rfl) (by exact rfl) (et (gS rfl (gS rfl (gS rfl (gS rfl (gS rfl (gS rfl (gS rfl (gS rfl (gS rfl g0))))))))) rfl) rfl (e_callV cal_99 (aC (et (gS rfl (gS rfl (gS rfl (gS rfl (gS rfl g0))))) rfl) (aC (et (gS rfl g0) rfl) aN)) (hX.ex.balC f2.self hB2s)) (fun v55 w55 h55 => ?_)
                                        obtain ⟨rfl, u55⟩ := h55
                                        replace k9 := k9.up u55
                                        replace k19 := k19.up u55
                                        replace k23 := k23.up u55
                                        replace hX := hX.up u55
                                        replace U := U.tr u55
                                        refine ⟨.inr (SU.tr u55), ?_⟩
                                        replace SU := SU.tr u55
                                        refine p_geff (j := 5) (t := 112) (by exact rfl) (by exact rfl) (by exact rfl) (et (gS rfl (gS rfl (gS rfl (gS rfl (gS rfl (gS rfl (gS rfl (gS rfl (gS rfl (gS rfl g0)))))))))) rfl) rfl (e_callV cal_112 (aC (et g0 rfl) (aC (et (gS rfl g0) rfl) aN)) (lt_spec _ _ _ hbal2 (argN_lt hB _))) (fun v56 w56 h56 => ?_)
                                        obtain ⟨rfl, u56⟩ := h56
                                        replace k9 := k9.up u56
                                        replace k19 := k19.up u56
                                        replace k23 := k23.up u56
                                        replace hX := hX.up u56
                                        replace U := U.tr u56
                                        refine ⟨.inr (SU.tr u56), ?_⟩
                                        replace SU := SU.tr u56
                                        refine p_step (by exact rfl) (y_pickF (et (gS rfl (gS rfl (gS rfl (gS rfl (gS rfl (gS rfl (gS rfl (gS rfl (gS rfl (gS rfl (gS rfl g0))))))))))) rfl) (et g0 rfl)) ?_
                                        refine p_nil ?_
                                        refine hK46 _ _ ?_
                                        refine fg6 0 2 3 4 5 124 (gS rfl (gS rfl (gS rfl (gS rfl (gS rfl (gS rfl (gS rfl (gS rfl (gS rfl (gS rfl (gS rfl (gS rfl (gS rfl (gS rfl (gS rfl (gS rfl (gS rfl (gS rfl (gS rfl (gS rfl (gS rfl (gS rfl (gS rfl (gS rfl g0)))))))))))))))))))))))) (gS rfl (gS rfl (gS rfl (gS rfl (gS rfl (gS rfl (gS rfl (gS rfl (gS rfl (gS rfl (gS rfl (gS rfl (gS rfl (gS rfl (gS rfl (gS rfl (gS rfl (gS rfl (gS rfl (gS rfl (gS rfl (gS rfl (gS rfl g0))))))))))))))))))))))) (gS rfl (gS rfl (gS rfl (gS rfl (gS rfl (gS rfl (gS rfl (gS rfl (gS rfl (gS rfl (gS rfl (gS rfl (gS rfl (gS rfl (gS rfl (gS rfl (gS rfl (gS rfl (gS rfl (gS rfl (gS rfl (gS rfl g0)))))))))))))))))))))) (gS rfl (gS rfl (gS rfl (gS rfl (gS rfl (gS rfl (gS rfl (gS rfl (gS rfl (gS rfl (gS rfl (gS rfl (gS rfl (gS rfl (gS rfl (gS rfl (gS rfl (gS rfl (gS rfl (gS rfl (gS rfl g0))))))))))))))))))))) (gS rfl (gS rfl (gS rfl (gS rfl (gS rfl (gS rfl (gS rfl (gS rfl (gS rfl (gS rfl (gS rfl (gS rfl (gS rfl (gS rfl (gS rfl (gS rfl (gS rfl (gS rfl (gS rfl (gS rfl g0)))))))))))))))))))) g0 (fun g => ?_)
                                        refine c_cond (et g0 rfl) (fun cB8 => ?_) (fun cB8 => ?_)
                                        · skip
                                          rw [hac2, hse2] at cB8
                                          have hfb : (acctAt s.now.accts f.self).bal < (argN f.stack 2) := of_decide_eq_true cB8
                                          refine c_seq (fun K58 hK58 => ?_)
                                          exact (by
                                            refine c_draw Up 9 [(0, true), (1, true), (2, true), (3, true), (4, true), (5, true), (6, true), (7, true), (8, true), (9, false)] (by kernel_rfl) (fun w59 hu => ⟨Up.refl _, ?_⟩)
                                            replace k9 := k9.up hu
                                            replace k19 := k19.up hu
                                            replace k23 := k23.up hu
                                            replace hX := hX.up hu
                                            replace U := U.tr hu
                                            have SU := Up.refl w59
                                            refine p_step (by exact rfl) (y_moveV (et (gS rfl (gS rfl (gS rfl (gS rfl g0)))) rfl)) ?_
                                            refine p_step (by exact rfl) (y_nil (et g0 rfl)) ?_
                                            refine p_step (by exact rfl) (y_fld fld_71_7 (et g0 rfl)) ?_
                                            refine p_step (by exact rfl) (y_load1 one_26 (et g0 rfl) (atS (hX.ex.vl.c1 (hR2.r1 7 _ rfl) (by omega)))) ?_
                                            refine p_step (by exact rfl) (y_fld fld_71_7 (et (gS rfl (gS rfl (gS rfl (gS rfl (gS rfl (gS rfl g0)))))) rfl)) ?_
                                            refine p_step (by exact rfl) (y_load1 one_26 (et g0 rfl) (atS (k19.cell (show _ = some (Value.int .u64 (cG f 241 : Nat)) from rfl)))) ?_
                                            refine p_step (by exact rfl) (y_add (et (gS rfl (gS rfl g0)) rfl) (et g0 rfl) (wrapU_addN uk64 ?_)) ?_
                                            omega
                                            refine p_step (by exact rfl) (y_nil (et (gS rfl (gS rfl (gS rfl (gS rfl (gS rfl (gS rfl g0)))))) rfl)) ?_
                                            refine p_step (by exact rfl) (y_fld fld_71_7 (et g0 rfl)) ?_
                                            refine p_effN (by exact rfl) (e_store sz_26 (et g0 rfl) (cellsV (et (gS rfl (gS rfl g0)) rfl) rfl) rfl (by intro v hv; simp at hv; subst hv; rfl) hX.ex.vl.kC (by rw [hX.ex.vl.size]; omega)) (fun v60 w60 h60 => ?_)
                                            obtain ⟨rfl, x60⟩ := h60
                                            have hv60 := hX.stGas hsf2 hph2 (p := f2.gas + cG f 241) (c' := c') (by omega) (by omega) (by omega) x60
                                            replace k9 := k9.ch x60.ch (by intro hm; first | omega | (subst hm; omega))
                                            replace k19 := k19.ch x60.ch (by intro hm; first | omega | (subst hm; omega))
                                            replace k23 := k23.ch x60.ch (by intro hm; first | omega | (subst hm; omega))
                                            replace hX := hv60
                                            replace U := U.cc x60.ch (by intro b hb; exact .inl trivial)
                                            obtain ⟨f3, hf3⟩ : ∃ f3 : YF, f3 = { f2 with gas := f2.gas + cG f 241 } := ⟨_, rfl⟩
                                            obtain ⟨s3, hs3⟩ : ∃ s3 : YSt, s3 = { s2 with frames := low ++ [f3] } := ⟨_, rfl⟩
                                            replace hX := hX.reS (show s3 = { s2 with frames := low ++ [{ f2 with gas := f2.gas + cG f 241 }] } by rw [hs3, hf3])
                                            have hsf3 : s3.frames = low ++ [f3] := by rw [hs3]
                                            have hph3 : s3.phase = 1 := by rw [hs3]; exact hph2
                                            have hsk3 : f3.stack = f.stack := by first | (rw [hf3]; done) | (rw [hf3]; exact hsk2)
                                            refine ⟨.inl rfl, ?_⟩
                                            refine p_nil ?_
                                            refine hK58 _ _ ?_
                                            refine fg3 0 2 5 (gS rfl (gS rfl (gS rfl (gS rfl (gS rfl (gS rfl (gS rfl (gS rfl (gS rfl (gS rfl (gS rfl (gS rfl (gS rfl (gS rfl g0)))))))))))))) (gS rfl (gS rfl (gS rfl (gS rfl (gS rfl (gS rfl (gS rfl (gS rfl (gS rfl (gS rfl (gS rfl (gS rfl (gS rfl g0))))))))))))) (gS rfl (gS rfl (gS rfl (gS rfl (gS rfl (gS rfl (gS rfl (gS rfl (gS rfl (gS rfl g0)))))))))) (fun g => ?_)
                                            refine c_seq (fun K61 hK61 => ?_)
                                            exact (by
                                              refine c_region ?_
                                              refine l_step (y_moveV (et (gS rfl (gS rfl g0)) rfl)) ?_
                                              refine l_step (y_moveV (et (gS rfl (gS rfl g0)) rfl)) ?_
                                              refine l_step (y_moveV (et (gS rfl (gS rfl g0)) rfl)) ?_
                                              refine l_step (y_add (et g0 rfl) rfl (addIN (x := 3) (y := 4) ?_)) ?_
                                              omega
                                              refine l_step (y_conv Hvaa.underlying3 Hvaa.underlying67 (et g0 rfl) (wrapU_id uk16 ?_)) ?_
                                              omega
                                              refine l_step (y_bld bN bld65_z) ?_
                                              refine l_eff (e_callV cal_259 (aC (et (gS rfl (gS rfl (gS rfl (gS rfl (gS rfl g0))))) rfl) (aC (et (gS rfl (gS rfl (gS rfl (gS rfl g0)))) rfl) (aC (et (gS rfl g0) rfl) (aC rfl (aC (et g0 rfl) (aC (v := .int .u16 ((1 : Nat) : Int)) rfl aN)))))) (m_settle1 hX.ex hsf3 hph3 rfl 7 _ 1 (by rw [hsk3]; omega) (by decide) (by rw [hf3, hf2]; show f.pc + 1 ≤ 560; omega) (by rw [hsk3]; omega))) (fun v62 w62 h62 => ?_)
                                              obtain ⟨rfl, cs62, y62⟩ := h62
                                              replace k9 := k9.ch y62.et.go.ch (by intro hm; (have e0 := hm); omega)
                                              replace k19 := k19.ch y62.et.go.ch (by intro hm; (have e0 := hm); omega)
                                              replace k23 := k23.ch y62.et.go.ch (by intro hm; (have e0 := hm); omega)
                                              replace hX := hX.trans y62
                                              replace U := U.cc y62.et.go.ch (by intro b hb; exact .inl trivial)
                                              refine l_nil ?_
                                              refine hK61 _ _ ?_
                                              refine fg0 (fun g => ?_)
                                              refine c_ret ?_
                                              repeat with_reducible refine then_ret ?_
                                              refine ret0 rfl ?_
                                              have hfl : cFail { s with ret := [] } f 241 low.length := .inr (by show (acctAt s.now.accts f.self).bal < cV f 241; rw [show cV f 241 = (argN f.stack 2) from rfl]; exact hfb)
                                              rw [set_ans, hf3, hf2, hs3, hs2, hs1, hs0] at hX
                                              rw [show callY { s with ret := [] } f 241 low = { cS { s with ret := [] } f with frames := low ++ [cBack f 241] } from if_pos hfl]
                                              refine ⟨rfl, XO.of hX ?_⟩
                                              rw [hms]
                                              show _ = (low ++ [cBack f 241]).map _
                                              rw [List.map_append, List.map_append]
                                              rfl))
                                        · skip
                                          rw [hac2, hse2] at cB8
                                          have hfb : ¬ (acctAt s.now.accts f.self).bal < (argN f.stack 2) := of_decide_eq_false cB8
                                          refine c_skip ?_
                                          refine hK45 _ _ ?_
                                          refine fg5 0 2 3 4 5 (gS rfl (gS rfl (gS rfl (gS rfl (gS rfl g0))))) (gS rfl (gS rfl (gS rfl (gS rfl g0)))) (gS rfl (gS rfl (gS rfl g0))) (gS rfl (gS rfl g0)) (gS rfl g0) (fun g => ?_)
                                          refine c_seq (fun K63 hK63 => ?_)
                                          exact (by
                                            refine c_region ?_
                                            refine l_step (y_moveV (et (gS rfl (gS rfl (gS rfl (gS rfl g0)))) rfl)) ?_
                                            refine l_step (y_moveV (et (gS rfl (gS rfl (gS rfl (gS rfl (gS rfl g0))))) rfl)) ?_
                                            refine l_step (y_moveV (et (gS rfl (gS rfl (gS rfl (gS rfl (gS rfl g0))))) rfl)) ?_
                                            refine l_step (y_moveV (et (gS rfl (gS rfl (gS rfl g0))) rfl)) ?_
                                            have hB2 := hX.ex.fbT hsf2
                                            refine l_eff (e_callV cal_264 (aC (et (gS rfl (gS rfl g0)) rfl) (aC (et (gS rfl g0) rfl) (aC (et g0 rfl) aN))) (m_arg hX.ex hsf2 hph2 rfl 3 (by decide))) (fun v64 w64 h64 => ?_)
                                            obtain ⟨rfl, u64⟩ := h64
                                            replace k9 := k9.up u64
                                            replace k19 := k19.up u64
                                            replace k23 := k23.up u64
                                            replace hX := hX.up u64
                                            replace U := U.tr u64
                                            refine l_step (y_moveV (et (gS rfl (gS rfl (gS rfl (gS rfl (gS rfl (gS rfl (gS rfl (gS rfl (gS rfl g0))))))))) rfl)) ?_
                                            refine l_step (y_moveV (et (gS rfl (gS rfl (gS rfl (gS rfl (gS rfl (gS rfl (gS rfl (gS rfl (gS rfl g0))))))))) rfl)) ?_
                                            refine l_step (y_moveV (et (gS rfl (gS rfl (gS rfl (gS rfl (gS rfl (gS rfl (gS rfl g0))))))) rfl)) ?_
                                            refine l_step (y_add (et g0 rfl) rfl (addIN (x := 3) (y := 1) ?_)) ?_
                                            omega
                                            refine l_eff (e_callV cal_264 (aC (et (gS rfl (gS rfl (gS rfl g0))) rfl) (aC (et (gS rfl (gS rfl g0)) rfl) (aC (et g0 rfl) aN))) (m_arg hX.ex hsf2 hph2 rfl (3 + 1) (by decide))) (fun v65 w65 h65 => ?_)
                                            obtain ⟨rfl, u65⟩ := h65
                                            replace k9 := k9.up u65
                                            replace k19 := k19.up u65
                                            replace k23 := k23.up u65
                                            replace hX := hX.up u65
                                            replace U := U.tr u65
                                            refine l_eff (e_callV cal_292 (aC (et (gS rfl (gS rfl (gS rfl (gS rfl (gS rfl (gS rfl (gS rfl (gS rfl (gS rfl g0))))))))) rfl) (aC (et (gS rfl (gS rfl (gS rfl (gS rfl (gS rfl g0))))) rfl) (aC (et g0 rfl) aN))) (m_read hX.ex hsf2 hph2 hms8 _ _ (argN_lt hB2 _) (argN_lt hB2 _) (by rw [hsk2]; exact hrd))) (fun v66 w66 h66 => ?_)
                                            obtain ⟨H66, vb7, rfl, g66, bv7⟩ := h66
                                            have nh9 : ¬ H66.has b9 := g66.nb (fun hh => by have := hfz.lt hh; omega) k9.lt
                                            have nh19 : ¬ H66.has b19 := g66.nb (fun hh => by have := hfz.lt hh; omega) k19.lt
                                            have nh23 : ¬ H66.has b23 := g66.nb (fun hh => by have := hfz.lt hh; omega) k23.lt
                                            replace k9 := k9.ch g66.ch (by intro hm; exact hm.elim)
                                            replace k19 := k19.ch g66.ch (by intro hm; exact hm.elim)
                                            replace k23 := k23.ch g66.ch (by intro hm; exact hm.elim)
                                            replace hX := hX.gn g66
                                            replace U := U.cc g66.ch (by intro b hb; exact .inl trivial)
                                            rw [hsk2] at bv7
                                            obtain ⟨ca7, cc7, rfl⟩ := bv7.sl
                                            exact (by
                                              refine l_step (y_moveV (et g0 rfl)) ?_
                                              refine l_step (y_ext (et g0 rfl) rfl) ?_
                                              refine l_step (y_ext (et (gS rfl g0) rfl) rfl) ?_
                                              refine l_step (y_assignV (et (gS rfl g0) rfl)) ?_
                                              refine l_step (y_assignV (et (gS rfl g0) rfl)) ?_
                                              refine l_nil ?_
                                              refine hK63 _ _ ?_
                                              refine fg7 0 2 3 4 5 7 8 (gS rfl (gS rfl (gS rfl (gS rfl (gS rfl (gS rfl (gS rfl (gS rfl (gS rfl (gS rfl (gS rfl (gS rfl (gS rfl (gS rfl (gS rfl (gS rfl (gS rfl (gS rfl (gS rfl (gS rfl g0)))))))))))))))))))) (gS rfl (gS rfl (gS rfl (gS rfl (gS rfl (gS rfl (gS rfl (gS rfl (gS rfl (gS rfl (gS rfl (gS rfl (gS rfl (gS rfl (gS rfl (gS rfl (gS rfl (gS rfl (gS rfl g0))))))))))))))))))) (gS rfl (gS rfl (gS rfl (gS rfl (gS rfl (gS rfl (gS rfl (gS rfl (gS rfl (gS rfl (gS rfl (gS rfl (gS rfl (gS rfl (gS rfl (gS rfl (gS rfl (gS rfl g0)))))))))))))))))) (gS rfl (gS rfl (gS rfl (gS rfl (gS rfl (gS rfl (gS rfl (gS rfl (gS rfl (gS rfl (gS rfl (gS rfl (gS rfl (gS rfl (gS rfl (gS rfl (gS rfl g0))))))))))))))))) (gS rfl (gS rfl (gS rfl (gS rfl (gS rfl (gS rfl (gS rfl (gS rfl (gS rfl (gS rfl (gS rfl (gS rfl (gS rfl (gS rfl (gS rfl (gS rfl g0)))))))))))))))) (gS rfl g0) g0 (fun g => ?_)
                                              refine c_seq (fun K67 hK67 => ?_)
                                              refine c_seq (fun K68 hK68 => ?_)
                                              exact (by
                                                refine c_region ?_
                                                refine l_step (y_moveV (et g0 rfl)) ?_
                                                refine l_step (y_not (et g0 rfl)) ?_
                                                refine l_nil ?_
                                                refine hK68 _ _ ?_
                                                refine fg7 0 2 3 4 5 7 156 (gS rfl (gS rfl (gS rfl (gS rfl (gS rfl (gS rfl (gS rfl (gS rfl g0)))))))) (gS rfl (gS rfl (gS rfl (gS rfl (gS rfl (gS rfl (gS rfl g0))))))) (gS rfl (gS rfl (gS rfl (gS rfl (gS rfl (gS rfl g0)))))) (gS rfl (gS rfl (gS rfl (gS rfl (gS rfl g0))))) (gS rfl (gS rfl (gS rfl (gS rfl g0)))) (gS rfl (gS rfl (gS rfl g0))) g0 (fun g => ?_)
                                                refine c_false (et g0 rfl) (by rfl) ?_
                                                refine c_skip ?_
                                                refine hK67 _ _ ?_
                                                refine fg6 0 2 3 4 5 7 (gS rfl (gS rfl (gS rfl (gS rfl (gS rfl (gS rfl g0)))))) (gS rfl (gS rfl (gS rfl (gS rfl (gS rfl g0))))) (gS rfl (gS rfl (gS rfl (gS rfl g0)))) (gS rfl (gS rfl (gS rfl g0))) (gS rfl (gS rfl g0)) (gS rfl g0) (fun g => ?_)
                                                refine c_seq (fun K70 hK70 => ?_)
                                                exact (by
                                                  refine c_region ?_
                                                  refine l_step (y_moveV (et g0 rfl)) ?_
                                                  refine l_step (y_fld fld_71_13 (et (gS rfl (gS rfl (gS rfl g0))) rfl)) ?_
                                                  refine l_effN (e_store sz_38 (et g0 rfl) (cellsV (et (gS rfl g0) rfl) rfl) rfl (by first | exact one_bL _ | exact one_uL _ | (intro v hv; simp at hv; subst hv; rfl)) k19 (by (rw [List.size_toArray, fcv_len rfl]; decide))) (fun v71 w71 h71 => ?_)
                                                  obtain ⟨rfl, x71⟩ := h71
                                                  replace k9 := k9.ch x71.ch (by omega)
                                                  replace k23 := k23.ch x71.ch (by omega)
                                                  replace hX := hX.ch x71.ch (by first | omega | (intro b hb; first | (subst hb; first | exact ⟨by omega, fun hh => by have := hfz.lt hh; omega, by omega⟩ | exact ⟨by omega, by assumption, by omega⟩) | (rcases hb with hb | hb <;> (subst hb; first | exact ⟨by omega, fun hh => by have := hfz.lt hh; omega, by omega⟩ | exact ⟨by omega, by assumption, by omega⟩))))
                                                  replace k19 := x71.blk
                                                  replace U := U.st x71 (.inr f19)
                                                  replace k19 := Blk.fin (q := _) k19
                                                  refine l_nil ?_
                                                  refine hK70 _ _ ?_
                                                  refine fg5 0 2 3 4 5 (gS rfl (gS rfl (gS rfl (gS rfl (gS rfl (gS rfl (gS rfl g0))))))) (gS rfl (gS rfl (gS rfl (gS rfl (gS rfl (gS rfl g0)))))) (gS rfl (gS rfl (gS rfl (gS rfl (gS rfl g0))))) (gS rfl (gS rfl (gS rfl (gS rfl g0)))) (gS rfl (gS rfl (gS rfl g0))) (fun g => ?_)
                                                  refine c_seq (fun K72 hK72 => ?_)
                                                  exact (by
                                                    refine c_region ?_
                                                    refine l_step (y_loadB agg_25 sz_25 (et (gS rfl (gS rfl g0)) rfl) (by rw [List.size_toArray, length_bL, length_be]) (at1B k9)) ?_
                                                    refine l_eff (e_callV cal_102 (aC (et g0 rfl) aN) (mach_nativeAt (ctT f) _ (Nat.mod_lt _ A160_pos))) (fun v73 w73 h73 => ?_)
                                                    obtain ⟨rfl, u73⟩ := h73
                                                    replace k9 := k9.up u73
                                                    replace k19 := k19.up u73
                                                    replace k23 := k23.up u73
                                                    replace hX := hX.up u73
                                                    replace U := U.tr u73
                                                    refine l_step (y_fld fld_71_2 (et (gS rfl (gS rfl (gS rfl g0))) rfl)) ?_
                                                    refine l_effN (e_store sz_5 (et g0 rfl) (cellsV (et (gS rfl g0) rfl) rfl) rfl (by first | exact one_bL _ | exact one_uL _ | (intro v hv; simp at hv; subst hv; rfl)) k19 (by (rw [List.size_toArray, fcv_len rfl]; decide))) (fun v74 w74 h74 => ?_)
                                                    obtain ⟨rfl, x74⟩ := h74
                                                    replace k9 := k9.ch x74.ch (by omega)
                                                    replace k23 := k23.ch x74.ch (by omega)
                                                    replace hX := hX.ch x74.ch (by first | omega | (intro b hb; first | (subst hb; first | exact ⟨by omega, fun hh => by have := hfz.lt hh; omega, by omega⟩ | exact ⟨by omega, by assumption, by omega⟩) | (rcases hb with hb | hb <;> (subst hb; first | exact ⟨by omega, fun hh => by have := hfz.lt hh; omega, by omega⟩ | exact ⟨by omega, by assumption, by omega⟩))))
                                                    replace k19 := x74.blk
                                                    replace U := U.st x74 (.inr f19)
                                                    replace k19 := Blk.fnt (q := natAt (ctT f)) k19
                                                    replace k19 : Blk w74 b19 (fcv (cFr 2 f.static (argN f.stack 2) (ctT f) f.self (cG f 241) (natAt (ctT f)) [] []) (.slice none 0 0) (.slice ca7 (rdN f.mem (argN f.stack 3) (argN f.stack (3 + 1))).length cc7) 0 0 0 (List.replicate 8 0)).toArray := k19
                                                    refine l_nil ?_
                                                    refine hK72 _ _ ?_
                                                    refine fg5 0 2 3 4 5 (gS rfl (gS rfl (gS rfl (gS rfl (gS rfl (gS rfl (gS rfl g0))))))) (gS rfl (gS rfl (gS rfl (gS rfl (gS rfl (gS rfl g0)))))) (gS rfl (gS rfl (gS rfl (gS rfl (gS rfl g0))))) (gS rfl (gS rfl (gS rfl (gS rfl g0)))) (gS rfl (gS rfl (gS rfl g0))) (fun g => ?_)
                                                    refine c_seq (fun K75 hK75 => ?_)
                                                    refine c_seq (fun K76 hK76 => ?_)
                                                    exact (by
                                                      refine c_region ?_
                                                      refine l_step (y_fld fld_71_2 (et (gS rfl g0) rfl)) ?_
                                                      refine l_step (y_load1 one_5 (et g0 rfl) (at1 (k19.cell (show _ = some (Value.int .u8 (natAt (ctT f) : Nat)) from rfl)))) ?_
                                                      refine l_step (y_eql (et g0 rfl) rfl) ?_
                                                      refine l_nil ?_
                                                      refine hK76 _ _ ?_
                                                      refine fg6 0 2 3 4 5 166 (gS rfl (gS rfl (gS rfl (gS rfl (gS rfl (gS rfl (gS rfl g0))))))) (gS rfl (gS rfl (gS rfl (gS rfl (gS rfl (gS rfl g0)))))) (gS rfl (gS rfl (gS rfl (gS rfl (gS rfl g0))))) (gS rfl (gS rfl (gS rfl (gS rfl g0)))) (gS rfl (gS rfl (gS rfl g0))) g0 (fun g => ?_)
                                                      refine c_cond (et g0 rfl) (fun cB10 => ?_) (fun cB10 => ?_)
                                                      · skip
                                                        
                                                        have hnt : natAt (ctT f) = 0 := by have := of_decide_eq_true cB10; omega
                                                        exact (by
                                                          refine c_draw Up 7 [(0, true), (1, true), (2, true), (3, true), (4, true), (5, false), (6, true), (7, false)] (by kernel_rfl) (fun w78 hu => ⟨Up.refl _, ?_⟩)
                                                          replace k9 := k9.up hu
                                                          replace k19 := k19.up hu
                                                          replace k23 := k23.up hu
                                                          replace hX := hX.up hu
                                                          replace U := U.tr hu
                                                          have SU := Up.refl w78
                                                          refine p_step (by exact rfl) (y_moveV (et (gS rfl (gS rfl (gS rfl (gS rfl (gS rfl g0))))) rfl)) ?_
                                                          refine p_step (by exact rfl) (y_nil (et g0 rfl)) ?_
                                                          refine p_step (by exact rfl) (y_fld fld_75_0 (et g0 rfl)) ?_
                                                          refine p_step (by exact rfl) (y_load1 one_59 (et g0 rfl) (atS (hX.ex.vl.c1 hX.ex.lx.pS rfl))) ?_
                                                          refine p_step (by exact rfl) (y_loadB agg_25 sz_25 (et (gS rfl (gS rfl (gS rfl (gS rfl (gS rfl (gS rfl (gS rfl g0))))))) rfl) (by rw [List.size_toArray, length_bL, length_be]) (atSB k9)) ?_
                                                          refine p_eff (by exact rfl) (e_callV cal_103 (aC (et (gS rfl g0) rfl) (aC (et g0 rfl) aN)) (hX.ex.codeC (ctT f) (Nat.mod_lt _ A160_pos))) (fun v79 w79 h79 => ?_)
                                                          obtain ⟨H79, ca9, cc9, rfl, g79, bv9⟩ := h79
                                                          have nh9 : ¬ H79.has b9 := g79.nb nh9 k9.lt
                                                          have nh19 : ¬ H79.has b19 := g79.nb nh19 k19.lt
                                                          have nh23 : ¬ H79.has b23 := g79.nb nh23 k23.lt
                                                          replace k9 := k9.ch g79.ch (by intro hm; exact hm.elim)
                                                          replace k19 := k19.ch g79.ch (by intro hm; exact hm.elim)
                                                          replace k23 := k23.ch g79.ch (by intro hm; exact hm.elim)
                                                          replace hX := hX.gn g79
                                                          replace U := U.cc g79.ch (by intro b hb; exact .inl trivial)
                                                          rw [hac2] at bv9
                                                          replace SU := SU.cc g79.ch (by intro b hb; first | exact .inl hb | exact hb.elim | omega)
                                                          refine ⟨.inr SU, ?_⟩
                                                          refine p_step (by exact rfl) (y_fld fld_71_12 (et (gS rfl (gS rfl (gS rfl (gS rfl (gS rfl (gS rfl (gS rfl (gS rfl g0)))))))) rfl)) ?_
                                                          refine p_effN (by exact rfl) (e_store sz_38 (et g0 rfl) (cellsV (et (gS rfl g0) rfl) rfl) rfl (by first | exact one_bL _ | exact one_uL _ | (intro v hv; simp at hv; subst hv; rfl)) k19 (by (rw [List.size_toArray, fcv_len rfl]; decide))) (fun v80 w80 h80 => ?_)
                                                          obtain ⟨rfl, x80⟩ := h80
                                                          replace k9 := k9.ch x80.ch (by omega)
                                                          replace k23 := k23.ch x80.ch (by omega)
                                                          replace hX := hX.ch x80.ch (by first | omega | (intro b hb; first | (subst hb; first | exact ⟨by omega, fun hh => by have := hfz.lt hh; omega, by omega⟩ | exact ⟨by omega, by assumption, by omega⟩) | (rcases hb with hb | hb <;> (subst hb; first | exact ⟨by omega, fun hh => by have := hfz.lt hh; omega, by omega⟩ | exact ⟨by omega, by assumption, by omega⟩))))
                                                          replace k19 := x80.blk
                                                          replace U := U.st x80 (.inr f19)
                                                          refine ⟨.inl rfl, ?_⟩
                                                          replace k19 := Blk.fco (q := _) k19
                                                          refine p_nil ?_
                                                          refine hK75 _ _ ?_
                                                          refine fg4 0 2 4 5 (gS rfl (gS rfl (gS rfl (gS rfl (gS rfl (gS rfl (gS rfl (gS rfl (gS rfl (gS rfl (gS rfl (gS rfl g0)))))))))))) (gS rfl (gS rfl (gS rfl (gS rfl (gS rfl (gS rfl (gS rfl (gS rfl (gS rfl (gS rfl (gS rfl g0))))))))))) (gS rfl (gS rfl (gS rfl (gS rfl (gS rfl (gS rfl (gS rfl (gS rfl (gS rfl g0))))))))) (gS rfl (gS rfl (gS rfl (gS rfl (gS rfl (gS rfl (gS rfl (gS rfl g0)))))))) (fun g => ?_)
                                                          refine c_seq (fun K81 hK81 => ?_)
                                                          exact (by
                                                            refine c_region ?_
                                                            refine l_step (y_moveV (et (gS rfl (gS rfl g0)) rfl)) ?_
                                                            refine l_step (y_nil (et g0 rfl)) ?_
                                                            refine l_step (y_fld fld_71_15 (et g0 rfl)) ?_
                                                            refine l_effN (e_store sz_60 (et g0 rfl) (cellsV rfl rfl) rfl (by intro v hv; simp at hv; subst hv; rfl) hX.ex.vl.kC (by rw [hX.ex.vl.size]; omega)) (fun v82 w82 h82 => ?_)
                                                            obtain ⟨rfl, x82⟩ := h82
                                                            have hv82 := hX.stOO hsf2 hph2 (p := 0) (by omega) (by omega) x82
                                                            replace k9 := k9.ch x82.ch (by intro hm; first | omega | (subst hm; omega))
                                                            replace k19 := k19.ch x82.ch (by intro hm; first | omega | (subst hm; omega))
                                                            replace k23 := k23.ch x82.ch (by intro hm; first | omega | (subst hm; omega))
                                                            replace hX := hv82
                                                            replace U := U.cc x82.ch (by intro b hb; exact .inl trivial)
                                                            obtain ⟨f4, hf4⟩ : ∃ f4 : YF, f4 = { f2 with outOff := 0 } := ⟨_, rfl⟩
                                                            obtain ⟨s4, hs4⟩ : ∃ s4 : YSt, s4 = { s2 with frames := low ++ [f4] } := ⟨_, rfl⟩
                                                            replace hX := hX.reS (show s4 = { s2 with frames := low ++ [{ f2 with outOff := 0 }] } by rw [hs4, hf4])
                                                            have hsf4 : s4.frames = low ++ [f4] := by rw [hs4]
                                                            have hph4 : s4.phase = 1 := by rw [hs4]; exact hph2
                                                            have hsk4 : f4.stack = f.stack := by first | (rw [hf4]; done) | (rw [hf4]; exact hsk2)
                                                            refine l_nil ?_
                                                            refine hK81 _ _ ?_
                                                            refine fg4 0 2 4 5 (gS rfl (gS rfl (gS rfl (gS rfl (gS rfl (gS rfl g0)))))) (gS rfl (gS rfl (gS rfl (gS rfl (gS rfl g0))))) (gS rfl (gS rfl (gS rfl (gS rfl g0)))) (gS rfl (gS rfl (gS rfl g0))) (fun g => ?_)
                                                            refine c_seq (fun K83 hK83 => ?_)
                                                            exact (by
                                                              refine c_region ?_
                                                              refine l_step (y_moveV (et (gS rfl (gS rfl g0)) rfl)) ?_
                                                              refine l_step (y_nil (et g0 rfl)) ?_
                                                              refine l_step (y_fld fld_71_16 (et g0 rfl)) ?_
                                                              refine l_effN (e_store sz_60 (et g0 rfl) (cellsV rfl rfl) rfl (by intro v hv; simp at hv; subst hv; rfl) hX.ex.vl.kC (by rw [hX.ex.vl.size]; omega)) (fun v84 w84 h84 => ?_)
                                                              obtain ⟨rfl, x84⟩ := h84
                                                              have hv84 := hX.stOL hsf4 hph4 (p := 0) (by omega) (by omega) x84
                                                              replace k9 := k9.ch x84.ch (by intro hm; first | omega | (subst hm; omega))
                                                              replace k19 := k19.ch x84.ch (by intro hm; first | omega | (subst hm; omega))
                                                              replace k23 := k23.ch x84.ch (by intro hm; first | omega | (subst hm; omega))
                                                              replace hX := hv84
                                                              replace U := U.cc x84.ch (by intro b hb; exact .inl trivial)
                                                              obtain ⟨f5, hf5⟩ : ∃ f5 : YF, f5 = { f4 with outLen := 0 } := ⟨_, rfl⟩
                                                              obtain ⟨s5, hs5⟩ : ∃ s5 : YSt, s5 = { s4 with frames := low ++ [f5] } := ⟨_, rfl⟩
                                                              replace hX := hX.reS (show s5 = { s4 with frames := low ++ [{ f4 with outLen := 0 }] } by rw [hs5, hf5])
                                                              have hsf5 : s5.frames = low ++ [f5] := by rw [hs5]
                                                              have hph5 : s5.phase = 1 := by rw [hs5]; exact hph4
                                                              have hsk5 : f5.stack = f.stack := by first | (rw [hf5]; done) | (rw [hf5]; exact hsk4)
                                                              have hnw4 := hX.ex.vl.new
                                                              have hfz4 := hX.ex.vl.fz
                                                              refine l_nil ?_
                                                              refine hK83 _ _ ?_
                                                              refine fg4 0 2 4 5 (gS rfl (gS rfl (gS rfl (gS rfl (gS rfl (gS rfl g0)))))) (gS rfl (gS rfl (gS rfl (gS rfl (gS rfl g0))))) (gS rfl (gS rfl (gS rfl (gS rfl g0)))) (gS rfl (gS rfl (gS rfl g0))) (fun g => ?_)
                                                              refine c_seq (fun K85 hK85 => ?_)
                                                              refine c_seq (fun K86 hK86 => ?_)
                                                              exact (by
                                                                refine c_region ?_
                                                                refine l_step (y_moveV (et (gS rfl (gS rfl (gS rfl g0))) rfl)) ?_
                                                                refine l_step (y_moveV (et (gS rfl (gS rfl (gS rfl g0))) rfl)) ?_
                                                                refine l_step (y_moveV (et (gS rfl (gS rfl g0)) rfl)) ?_
                                                                refine l_step (y_add (et g0 rfl) rfl (addIN (x := 3) (y := 3) ?_)) ?_
                                                                omega
                                                                have hB5 := hX.ex.fbT hsf5
                                                                refine l_eff (e_callV cal_264 (aC (et (gS rfl (gS rfl (gS rfl g0))) rfl) (aC (et (gS rfl (gS rfl g0)) rfl) (aC (et g0 rfl) aN))) (m_arg hX.ex hsf5 hph5 rfl (3 + 3) (by decide))) (fun v87 w87 h87 => ?_)
                                                                obtain ⟨rfl, u87⟩ := h87
                                                                replace k9 := k9.up u87
                                                                replace k19 := k19.up u87
                                                                replace k23 := k23.up u87
                                                                replace hX := hX.up u87
                                                                replace U := U.tr u87
                                                                have hnw4 := hX.ex.vl.new
                                                                have hfz4 := hX.ex.vl.fz
                                                                refine l_eff (e_alloc zr_65) (fun v88 w88 h88 => ?_)
                                                                obtain ⟨b88, rfl, n88⟩ := h88
                                                                have d9_88 : b9 < b88 := Nat.lt_of_lt_of_le k9.lt n88.fresh
                                                                have d19_88 : b19 < b88 := Nat.lt_of_lt_of_le k19.lt n88.fresh
                                                                have d23_88 : b23 < b88 := Nat.lt_of_lt_of_le k23.lt n88.fresh
                                                                have f88 : w.heap.size ≤ b88 := Nat.le_trans U.size n88.fresh
                                                                replace k9 := k9.up n88.up
                                                                replace k19 := k19.up n88.up
                                                                replace k23 := k23.up n88.up
                                                                replace hX := hX.up n88.up
                                                                replace U := U.tr n88.up
                                                                have k88 := n88.blk
                                                                obtain ⟨zs88, hz88, k88⟩ : ∃ cs : Array Value, cs.size = 4 ∧ Blk w88 b88 cs := ⟨_, rfl, k88⟩
                                                                have nc88 := hnw4 b88 n88.fresh
                                                                have nh88 : ¬ H79.has b88 := fun hh => by have h9 := hfz4.lt hh; have h8 := n88.fresh; omega
                                                                exact (by
                                                                  refine l_effN (e_store sz_65 (et g0 rfl) (cellsV (et (gS rfl g0) rfl) rfl) rfl (by exact one_uL _) k88 (by (first | (rw [hz88]; exact Nat.le_refl _) | (rw [List.size_toArray, wL_len]; exact Nat.le_refl _)))) (fun v89 w89 h89 => ?_)
                                                                  obtain ⟨rfl, x89⟩ := h89
                                                                  replace k9 := k9.ch x89.ch (by omega)
                                                                  replace k19 := k19.ch x89.ch (by omega)
                                                                  replace k23 := k23.ch x89.ch (by omega)
                                                                  replace hX := hX.ch x89.ch (by first | omega | (intro b hb; first | (subst hb; first | exact ⟨by omega, fun hh => by have := hfz.lt hh; omega, by omega⟩ | exact ⟨by omega, by assumption, by omega⟩) | (rcases hb with hb | hb <;> (subst hb; first | exact ⟨by omega, fun hh => by have := hfz.lt hh; omega, by omega⟩ | exact ⟨by omega, by assumption, by omega⟩))))
                                                                  replace k88 := x89.blk.full (by first | (rw [hz88]; rfl) | (rw [List.size_toArray, wL_len, wL_len]))
                                                                  replace U := U.st x89 (.inr f88)
                                                                  refine l_nil ?_
                                                                  refine hK86 _ _ ?_
                                                                  refine fg5 0 2 4 5 9 (gS rfl (gS rfl (gS rfl (gS rfl (gS rfl (gS rfl (gS rfl (gS rfl (gS rfl g0))))))))) (gS rfl (gS rfl (gS rfl (gS rfl (gS rfl (gS rfl (gS rfl (gS rfl g0)))))))) (gS rfl (gS rfl (gS rfl (gS rfl (gS rfl (gS rfl (gS rfl g0))))))) (gS rfl (gS rfl (gS rfl (gS rfl (gS rfl (gS rfl g0)))))) g0 (fun g => ?_)
                                                                  refine c_seq (fun K90 hK90 => ?_)
                                                                  exact (by
                                                                    refine c_region ?_
                                                                    refine l_step (y_loadB agg_65 sz_65 (et g0 rfl) rfl (at1B k88)) ?_
                                                                    refine l_eff (e_callV cal_78 (aC (et g0 rfl) aN) (isZero_spec _ _ (argN_lt hB5 _))) (fun v91 w91 h91 => ?_)
                                                                    obtain ⟨rfl, u91⟩ := h91
                                                                    replace k9 := k9.up u91
                                                                    replace k19 := k19.up u91
                                                                    replace k23 := k23.up u91
                                                                    replace k88 := k88.up u91
                                                                    replace hX := hX.up u91
                                                                    replace U := U.tr u91
                                                                    refine l_step (y_not (et g0 rfl)) ?_
                                                                    refine l_nil ?_
                                                                    refine hK90 _ _ ?_
                                                                    refine fg6 0 2 4 5 9 187 (gS rfl (gS rfl (gS rfl (gS rfl (gS rfl (gS rfl (gS rfl g0))))))) (gS rfl (gS rfl (gS rfl (gS rfl (gS rfl (gS rfl g0)))))) (gS rfl (gS rfl (gS rfl (gS rfl (gS rfl g0))))) (gS rfl (gS rfl (gS rfl (gS rfl g0)))) (gS rfl (gS rfl (gS rfl g0))) g0 (fun g => ?_)
                                                                    refine c_cond (et g0 rfl) (fun cB11 => ?_) (fun cB11 => ?_)
                                                                    · skip
                                                                      rw [hsk5] at cB11
                                                                      have hn0 : argN f.stack (3 + 3) ≠ 0 := by simpa using cB11
                                                                      have hou := hout hn0
                                                                      rw [hsk5] at k88
                                                                      refine c_seq (fun K93 hK93 => ?_)
                                                                      exact (by
                                                                        refine c_region ?_
                                                                        refine l_step (y_moveV (et (gS rfl (gS rfl (gS rfl (gS rfl g0)))) rfl)) ?_
                                                                        refine l_step (y_moveV (et (gS rfl (gS rfl (gS rfl (gS rfl (gS rfl (gS rfl g0)))))) rfl)) ?_
                                                                        refine l_step (y_moveV (et (gS rfl (gS rfl (gS rfl (gS rfl (gS rfl (gS rfl g0)))))) rfl)) ?_
                                                                        refine l_step (y_moveV (et (gS rfl (gS rfl (gS rfl (gS rfl (gS rfl g0))))) rfl)) ?_
                                                                        refine l_step (y_add (et g0 rfl) rfl (addIN (x := 3) (y := 2) ?_)) ?_
                                                                        omega
                                                                        refine l_eff (e_callV cal_264 (aC (et (gS rfl (gS rfl (gS rfl g0))) rfl) (aC (et (gS rfl (gS rfl g0)) rfl) (aC (et g0 rfl) aN))) (m_arg hX.ex hsf5 hph5 rfl (3 + 2) (by decide))) (fun v94 w94 h94 => ?_)
                                                                        obtain ⟨rfl, u94⟩ := h94
                                                                        replace k9 := k9.up u94
                                                                        replace k19 := k19.up u94
                                                                        replace k23 := k23.up u94
                                                                        replace k88 := k88.up u94
                                                                        replace hX := hX.up u94
                                                                        replace U := U.tr u94
                                                                        refine l_eff (e_callV cal_299 (aC (et g0 rfl) aN) (m_small _ _ (by rw [hsk5]; omega))) (fun v95 w95 h95 => ?_)
                                                                        obtain ⟨rfl, u95⟩ := h95
                                                                        replace k9 := k9.up u95
                                                                        replace k19 := k19.up u95
                                                                        replace k23 := k23.up u95
                                                                        replace k88 := k88.up u95
                                                                        replace hX := hX.up u95
                                                                        replace U := U.tr u95
                                                                        refine l_step (y_nil (et (gS rfl (gS rfl (gS rfl (gS rfl (gS rfl (gS rfl g0)))))) rfl)) ?_
                                                                        refine l_step (y_fld fld_71_15 (et g0 rfl)) ?_
                                                                        refine l_effN (e_store sz_60 (et g0 rfl) (cellsV (et (gS rfl (gS rfl g0)) rfl) rfl) rfl (by intro v hv; simp at hv; subst hv; rfl) hX.ex.vl.kC (by rw [hX.ex.vl.size]; omega)) (fun v96 w96 h96 => ?_)
                                                                        obtain ⟨rfl, x96⟩ := h96
                                                                        rw [hsk5] at x96
                                                                        have hv96 := hX.stOO hsf5 hph5 (p := argN f.stack (3 + 2)) (by omega) (by omega) x96
                                                                        replace k9 := k9.ch x96.ch (by intro hm; first | omega | (subst hm; omega))
                                                                        replace k19 := k19.ch x96.ch (by intro hm; first | omega | (subst hm; omega))
                                                                        replace k23 := k23.ch x96.ch (by intro hm; first | omega | (subst hm; omega))
                                                                        replace k88 := k88.ch x96.ch (by intro hm; first | omega | (subst hm; omega))
                                                                        replace hX := hv96
                                                                        replace U := U.cc x96.ch (by intro b hb; exact .inl trivial)
                                                                        obtain ⟨f6, hf6⟩ : ∃ f6 : YF, f6 = { f5 with outOff := argN f.stack (3 + 2) } := ⟨_, rfl⟩
                                                                        obtain ⟨s6, hs6⟩ : ∃ s6 : YSt, s6 = { s5 with frames := low ++ [f6] } := ⟨_, rfl⟩
                                                                        replace hX := hX.reS (show s6 = { s5 with frames := low ++ [{ f5 with outOff := argN f.stack (3 + 2) }] } by rw [hs6, hf6])
                                                                        have hsf6 : s6.frames = low ++ [f6] := by rw [hs6]
                                                                        have hph6 : s6.phase = 1 := by rw [hs6]; exact hph5
                                                                        have hsk6 : f6.stack = f.stack := by first | (rw [hf6]; done) | (rw [hf6]; exact hsk5)
                                                                        refine l_nil ?_
                                                                        refine hK93 _ _ ?_
                                                                        refine fg5 0 2 4 5 9 (gS rfl (gS rfl (gS rfl (gS rfl (gS rfl (gS rfl (gS rfl (gS rfl (gS rfl (gS rfl (gS rfl (gS rfl (gS rfl (gS rfl g0)))))))))))))) (gS rfl (gS rfl (gS rfl (gS rfl (gS rfl (gS rfl (gS rfl (gS rfl (gS rfl (gS rfl (gS rfl (gS rfl (gS rfl g0))))))))))))) (gS rfl (gS rfl (gS rfl (gS rfl (gS rfl (gS rfl (gS rfl (gS rfl (gS rfl (gS rfl (gS rfl (gS rfl g0)))))))))))) (gS rfl (gS rfl (gS rfl (gS rfl (gS rfl (gS rfl (gS rfl (gS rfl (gS rfl (gS rfl (gS rfl g0))))))))))) (gS rfl (gS rfl (gS rfl (gS rfl (gS rfl (gS rfl (gS rfl (gS rfl (gS rfl (gS rfl g0)))))))))) (fun g => ?_)
                                                                        refine c_region ?_
                                                                        exact (by
                                                                          refine l_step (y_moveV (et (gS rfl (gS rfl (gS rfl g0))) rfl)) ?_
                                                                          refine l_step (y_loadB agg_65 sz_65 (et (gS rfl g0) rfl) rfl (at1B k88)) ?_
                                                                          refine l_eff (e_callV cal_299 (aC (et g0 rfl) aN) (m_small _ _ (by omega))) (fun v97 w97 h97 => ?_)
                                                                          obtain ⟨rfl, u97⟩ := h97
                                                                          replace k9 := k9.up u97
                                                                          replace k19 := k19.up u97
                                                                          replace k23 := k23.up u97
                                                                          replace k88 := k88.up u97
                                                                          replace hX := hX.up u97
                                                                          replace U := U.tr u97
                                                                          refine l_step (y_nil (et (gS rfl (gS rfl g0)) rfl)) ?_
                                                                          refine l_step (y_fld fld_71_16 (et g0 rfl)) ?_
                                                                          refine l_effN (e_store sz_60 (et g0 rfl) (cellsV (et (gS rfl (gS rfl g0)) rfl) rfl) rfl (by intro v hv; simp at hv; subst hv; rfl) hX.ex.vl.kC (by rw [hX.ex.vl.size]; omega)) (fun v98 w98 h98 => ?_)
                                                                          obtain ⟨rfl, x98⟩ := h98
                                                                          have hv98 := hX.stOL hsf6 hph6 (p := argN f.stack (3 + 3)) (by omega) (by omega) x98
                                                                          replace k9 := k9.ch x98.ch (by intro hm; first | omega | (subst hm; omega))
                                                                          replace k19 := k19.ch x98.ch (by intro hm; first | omega | (subst hm; omega))
                                                                          replace k23 := k23.ch x98.ch (by intro hm; first | omega | (subst hm; omega))
                                                                          replace k88 := k88.ch x98.ch (by intro hm; first | omega | (subst hm; omega))
                                                                          replace hX := hv98
                                                                          replace U := U.cc x98.ch (by intro b hb; exact .inl trivial)
                                                                          obtain ⟨f7, hf7⟩ : ∃ f7 : YF, f7 = { f6 with outLen := argN f.stack (3 + 3) } := ⟨_, rfl⟩
                                                                          obtain ⟨s7, hs7⟩ : ∃ s7 : YSt, s7 = { s6 with frames := low ++ [f7] } := ⟨_, rfl⟩
                                                                          replace hX := hX.reS (show s7 = { s6 with frames := low ++ [{ f6 with outLen := argN f.stack (3 + 3) }] } by rw [hs7, hf7])
                                                                          have hsf7 : s7.frames = low ++ [f7] := by rw [hs7]
                                                                          have hph7 : s7.phase = 1 := by rw [hs7]; exact hph6
                                                                          have hsk7 : f7.stack = f.stack := by first | (rw [hf7]; done) | (rw [hf7]; exact hsk6)
                                                                          refine l_nil ?_
                                                                          refine hK85 _ _ ?_
                                                                          refine fg4 0 2 4 5 (gS rfl (gS rfl (gS rfl (gS rfl (gS rfl (gS rfl (gS rfl (gS rfl (gS rfl g0))))))))) (gS rfl (gS rfl (gS rfl (gS rfl (gS rfl (gS rfl (gS rfl (gS rfl g0)))))))) (gS rfl (gS rfl (gS rfl (gS rfl (gS rfl (gS rfl (gS rfl g0))))))) (gS rfl (gS rfl (gS rfl (gS rfl (gS rfl (gS rfl g0)))))) (fun g => ?_)
                                                                          refine c_seq (fun K99 hK99 => ?_)
                                                                          exact (by
                                                                            refine c_region ?_
                                                                            refine l_step (y_moveV (et (gS rfl (gS rfl (gS rfl g0))) rfl)) ?_
                                                                            refine l_step (y_moveV (et (gS rfl (gS rfl (gS rfl g0))) rfl)) ?_
                                                                            refine l_step (y_moveV (et (gS rfl (gS rfl g0)) rfl)) ?_
                                                                            refine l_step (y_add (et g0 rfl) rfl (addIN (x := 3) (y := 4) ?_)) ?_
                                                                            omega
                                                                            refine l_step (y_conv Hvaa.underlying3 Hvaa.underlying67 (et g0 rfl) (wrapU_id uk16 ?_)) ?_
                                                                            omega
                                                                            refine l_step (y_bld bN bld65_z) ?_
                                                                            refine l_eff (e_callV cal_259 (aC (et (gS rfl (gS rfl (gS rfl (gS rfl (gS rfl g0))))) rfl) (aC (et (gS rfl (gS rfl (gS rfl (gS rfl g0)))) rfl) (aC (et (gS rfl g0) rfl) (aC rfl (aC (et g0 rfl) (aC (v := .int .u16 ((0 : Nat) : Int)) rfl aN)))))) (m_settle0 hX.ex hsf7 hph7 rfl 7 0 0 (by rw [hsk7]; omega) (by decide) (by rw [hf7, hf6, hf5, hf4, hf2]; show f.pc + 0 ≤ 560; omega))) (fun v100 w100 h100 => ?_)
                                                                            obtain ⟨rfl, cs100, y100⟩ := h100
                                                                            replace k9 := k9.ch y100.et.go.ch (by intro hm; (have e0 := hm); omega)
                                                                            replace k19 := k19.ch y100.et.go.ch (by intro hm; (have e0 := hm); omega)
                                                                            replace k23 := k23.ch y100.et.go.ch (by intro hm; (have e0 := hm); omega)
                                                                            replace k88 := k88.ch y100.et.go.ch (by intro hm; (have e0 := hm); omega)
                                                                            replace hX := hX.trans y100
                                                                            replace U := U.cc y100.et.go.ch (by intro b hb; exact .inl trivial)
                                                                            have ew : setF f7 7 false 0 0 = cWait f 241 := by rw [hf7, hf6, hf5, hf4, hf2]; exact cwait_1 (q := 241) (tk := 7) (i := 3) (show tkN 241 = 7 from rfl) rfl hn0
                                                                            rw [ew] at hX
                                                                            obtain ⟨s9, hs9⟩ : ∃ s9 : YSt, s9 = { cS { s with ret := [] } f with frames := low ++ [cWait f 241] } := ⟨_, rfl⟩
                                                                            replace hX := hX.reS (show s9 = { s7 with frames := low ++ [cWait f 241] } by rw [hs9, hs7, hs6, hs5, hs4, hs2, hs1, hs0])
                                                                            have hac9 : s9.now.accts = s.now.accts := by rw [hs9]; rfl
                                                                            refine l_nil ?_
                                                                            refine hK99 _ _ ?_
                                                                            refine fg2 0 4 (gS rfl (gS rfl (gS rfl (gS rfl (gS rfl (gS rfl (gS rfl (gS rfl (gS rfl (gS rfl g0)))))))))) (gS rfl (gS rfl (gS rfl (gS rfl (gS rfl (gS rfl (gS rfl (gS rfl g0)))))))) (fun g => ?_)
                                                                            refine c_region ?_
                                                                            refine l_step (y_moveV (et (gS rfl g0) rfl)) ?_
                                                                            rw [hac2] at k19
                                                                            have euu : (cChild { s with ret := [] } f 241) = { cFr 2 f.static (argN f.stack 2) (ctT f) f.self (cG f 241) (natAt (ctT f)) [] [] with code := cCode { s with ret := [] } f, input := (rdN f.mem (argN f.stack 3) (argN f.stack (3 + 1))) } := rfl
                                                                            have ecd : cCode { s with ret := [] } f = (acctAt s.now.accts (ctT f)).code := if_pos hnt
                                                                            have hbc : BV H79 (.slice ca9 (cChild { s with ret := [] } f 241).code.length cc9) (cChild { s with ret := [] } f 241).code := by
                                                                              show BV _ (.slice ca9 (cCode { s with ret := [] } f).length cc9) (cCode { s with ret := [] } f)
                                                                              rw [ecd]
                                                                              exact bv9
                                                                            have hbi : BV H79 (.slice ca7 (cChild { s with ret := [] } f 241).input.length cc7) (cChild { s with ret := [] } f 241).input := (bv7.mono g79.le)
                                                                            replace k19 : Blk w100 b19 (fcv (cChild { s with ret := [] } f 241) (.slice ca9 (cChild { s with ret := [] } f 241).code.length cc9) (.slice ca7 (cChild { s with ret := [] } f 241).input.length cc7) 0 0 0 (List.replicate 8 0)).toArray := by
                                                                              show Blk _ _ (fcv (cChild { s with ret := [] } f 241) (.slice ca9 (cCode { s with ret := [] } f).length cc9) (.slice ca7 (rdN f.mem (argN f.stack 3) (argN f.stack (3 + 1))).length cc7) 0 0 0 (List.replicate 8 0)).toArray
                                                                              rw [ecd, euu, fcv_ci]
                                                                              exact k19
                                                                            have hU : EFB (cChild { s with ret := [] } f 241) := ⟨by show 2 < 8; decide, natAt_lt _, Nat.zero_le _, Nat.zero_le _, fun _ h => absurd h (List.not_mem_nil), by show cG f 241 ≤ 1048576; omega, by show (ctT f) < A160; exact (Nat.mod_lt _ A160_pos), by show f.self < A160; exact hB.self, by show (argN f.stack 2) < W256; exact (argN_lt hB _), by show (cCode { s with ret := [] } f).length ≤ 512; rw [ecd]; exact hcl, by show (rdN f.mem (argN f.stack 3) (argN f.stack (3 + 1))).length ≤ 717280; exact hrl, Nat.zero_le _, Nat.zero_le _, hbc.dig, hbi.dig⟩
                                                                            have hmk : 100 * V15.marks.length + (gasS s9 + (c1 + (sentN f.gas (argN f.stack 0)))) ≤ 1048576 := by
                                                                              rw [hmr, hs9, gas_top (s := { cS { s with ret := [] } f with frames := low ++ [cWait f 241] }) (low := low) (f := cWait f 241) rfl]
                                                                              have h8 := hE.px.pot.m
                                                                              rw [gas_top hs] at h8
                                                                              show 100 * V.marks.length + ((low.map (·.gas)).sum + (f.gas - (sentN f.gas (argN f.stack 0))) + (c1 + (sentN f.gas (argN f.stack 0)))) ≤ _
                                                                              omega
                                                                            have hcc := call_slack f 241 (by decide) hc3 (by intro h _ _; exact h)
                                                                            have hle : (cChild { s with ret := [] } f 241).kind ≠ 3 → (cChild { s with ret := [] } f 241).kind ≠ 7 → (cChild { s with ret := [] } f 241).value ≤ (acctAt (entA1 s9.now (cChild { s with ret := [] } f 241)) (cChild { s with ret := [] } f 241).caller).bal := by
                                                                              intro h1 h2
                                                                              rw [show entA1 s9.now (cChild { s with ret := [] } f 241) = s9.now.accts from if_neg (by show ¬ crN 2 = true; decide), hac9]
                                                                              show argN f.stack 2 ≤ _
                                                                              exact Nat.le_of_not_lt hfb
                                                                            have hov9 : (cChild { s with ret := [] } f 241).kind ≠ 3 → (cChild { s with ret := [] } f 241).kind ≠ 7 → (cChild { s with ret := [] } f 241).value ≠ 0 → (acctAt (takeB (entA1 s9.now (cChild { s with ret := [] } f 241)) (cChild { s with ret := [] } f 241).caller (cChild { s with ret := [] } f 241).value) (cChild { s with ret := [] } f 241).self).bal + (cChild { s with ret := [] } f 241).value < W256 := by
                                                                              intro h1 h2 h3
                                                                              rw [show entA1 s9.now (cChild { s with ret := [] } f 241) = s9.now.accts from if_neg (by show ¬ crN 2 = true; decide), hac9]
                                                                              exact hov (Nat.le_of_not_lt hfb) h3
                                                                            have hph9 : s9.phase = 1 := by rw [hs9]; exact hp
                                                                            have hap9 : s9.applied ≤ 4 := by rw [hs9]; exact hap
                                                                            have hl9 : s9.frames.length ≤ 6 := by rw [hs9]; show (low ++ [_]).length ≤ 6; rw [List.length_append, List.length_singleton]; omega
                                                                            have hm9 : ms.length ≤ 6 := by rw [hms, List.length_map, List.length_append, List.length_singleton]; omega
                                                                            refine l_step (y_loadB agg_71 sz_71 (et (gS rfl g0) rfl) (by rw [List.size_toArray, fcv_len rfl]) (at1B k19)) ?_
                                                                            exact (by
                                                                              refine l_eff (e_callV cal_105 (aC (et (gS rfl g0) rfl) (aC (et g0 rfl) aN)) (m_enter hX.ex (by omega) hl9 hm9 (u := (cChild { s with ret := [] } f 241)) hbc hbi hU rfl (c' := c') hap9 hmk hcc hht hhf.1 hle hov9 (hX.ex.limR hph9) (hX.ex.madR hph9) (hX.ex.orgR hph9))) (fun v101 w101 h101 => ?_)
                                                                              obtain ⟨rfl, cl101, cs101, V101, y101⟩ := h101
                                                                              replace k9 := k9.ch y101.et.go.ch (by intro hm; (have e0 := hm); omega)
                                                                              replace k19 := k19.ch y101.et.go.ch (by intro hm; (have e0 := hm); omega)
                                                                              replace k23 := k23.ch y101.et.go.ch (by intro hm; (have e0 := hm); omega)
                                                                              replace k88 := k88.ch y101.et.go.ch (by intro hm; (have e0 := hm); omega)
                                                                              replace hX := hX.trans y101
                                                                              replace U := U.cc y101.et.go.ch (by intro b hb; exact .inl trivial)
                                                                              refine l_nil ?_
                                                                              refine end0 rfl ?_
                                                                              have hnf : ¬ cFail { s with ret := [] } f 241 low.length := by
                                                                                intro h9
                                                                                rcases h9 with h9 | h9
                                                                                · exact hd6 h9
                                                                                · exact hfb h9
                                                                              rw [show callY { s with ret := [] } f 241 low = entY { cS { s with ret := [] } f with frames := low ++ [cWait f 241] } (cChild { s with ret := [] } f 241) from if_neg hnf]
                                                                              rw [hs9] at hX
                                                                              rw [show ({ entY { cS { s with ret := [] } f with frames := low ++ [cWait f 241] } (cChild { s with ret := [] } f 241) with phase := 1 } : YSt) = entY { cS { s with ret := [] } f with frames := low ++ [cWait f 241] } (cChild { s with ret := [] } f 241) from ph1 hp] at hX
                                                                              refine ⟨rfl, XO.of hX ?_⟩
                                                                              rw [hms]
                                                                              show _ = ((low ++ [cWait f 241]) ++ [_]).map _
                                                                              rw [List.map_append, List.map_append, List.map_append]
                                                                              rfl))))
                                                                    · skip
                                                                      rw [hsk5] at cB11
                                                                      have hn0 : argN f.stack (3 + 3) = 0 := by simpa using cB11
                                                                      refine c_skip ?_
                                                                      refine hK85 _ _ ?_
                                                                      refine fg4 0 2 4 5 (gS rfl (gS rfl (gS rfl (gS rfl (gS rfl g0))))) (gS rfl (gS rfl (gS rfl (gS rfl g0)))) (gS rfl (gS rfl (gS rfl g0))) (gS rfl (gS rfl g0)) (fun g => ?_)
                                                                      refine c_seq (fun K102 hK102 => ?_)
                                                                      exact (by
                                                                        refine c_region ?_
                                                                        refine l_step (y_moveV (et (gS rfl (gS rfl (gS rfl g0))) rfl)) ?_
                                                                        refine l_step (y_moveV (et (gS rfl (gS rfl (gS rfl g0))) rfl)) ?_
                                                                        refine l_step (y_moveV (et (gS rfl (gS rfl g0)) rfl)) ?_
                                                                        refine l_step (y_add (et g0 rfl) rfl (addIN (x := 3) (y := 4) ?_)) ?_
                                                                        omega
                                                                        refine l_step (y_conv Hvaa.underlying3 Hvaa.underlying67 (et g0 rfl) (wrapU_id uk16 ?_)) ?_
                                                                        omega
                                                                        refine l_step (y_bld bN bld65_z) ?_
                                                                        refine l_eff (e_callV cal_259 (aC (et (gS rfl (gS rfl (gS rfl (gS rfl (gS rfl g0))))) rfl) (aC (et (gS rfl (gS rfl (gS rfl (gS rfl g0)))) rfl) (aC (et (gS rfl g0) rfl) (aC rfl (aC (et g0 rfl) (aC (v := .int .u16 ((0 : Nat) : Int)) rfl aN)))))) (m_settle0 hX.ex hsf5 hph5 rfl 7 0 0 (by rw [hsk5]; omega) (by decide) (by rw [hf5, hf4, hf2]; show f.pc + 0 ≤ 560; omega))) (fun v103 w103 h103 => ?_)
                                                                        obtain ⟨rfl, cs103, y103⟩ := h103
                                                                        replace k9 := k9.ch y103.et.go.ch (by intro hm; (have e0 := hm); omega)
                                                                        replace k19 := k19.ch y103.et.go.ch (by intro hm; (have e0 := hm); omega)
                                                                        replace k23 := k23.ch y103.et.go.ch (by intro hm; (have e0 := hm); omega)
                                                                        replace k88 := k88.ch y103.et.go.ch (by intro hm; (have e0 := hm); omega)
                                                                        replace hX := hX.trans y103
                                                                        replace U := U.cc y103.et.go.ch (by intro b hb; exact .inl trivial)
                                                                        have ew : setF f5 7 false 0 0 = cWait f 241 := by rw [hf5, hf4, hf2]; exact cwait_0 (q := 241) (tk := 7) (i := 3) (show tkN 241 = 7 from rfl) rfl hn0
                                                                        rw [ew] at hX
                                                                        obtain ⟨s9, hs9⟩ : ∃ s9 : YSt, s9 = { cS { s with ret := [] } f with frames := low ++ [cWait f 241] } := ⟨_, rfl⟩
                                                                        replace hX := hX.reS (show s9 = { s5 with frames := low ++ [cWait f 241] } by rw [hs9, hs5, hs4, hs2, hs1, hs0])
                                                                        have hac9 : s9.now.accts = s.now.accts := by rw [hs9]; rfl
                                                                        refine l_nil ?_
                                                                        refine hK102 _ _ ?_
                                                                        refine fg2 0 4 (gS rfl (gS rfl (gS rfl (gS rfl (gS rfl (gS rfl (gS rfl (gS rfl (gS rfl (gS rfl g0)))))))))) (gS rfl (gS rfl (gS rfl (gS rfl (gS rfl (gS rfl (gS rfl (gS rfl g0)))))))) (fun g => ?_)
                                                                        refine c_region ?_
                                                                        refine l_step (y_moveV (et (gS rfl g0) rfl)) ?_
                                                                        rw [hac2] at k19
                                                                        have euu : (cChild { s with ret := [] } f 241) = { cFr 2 f.static (argN f.stack 2) (ctT f) f.self (cG f 241) (natAt (ctT f)) [] [] with code := cCode { s with ret := [] } f, input := (rdN f.mem (argN f.stack 3) (argN f.stack (3 + 1))) } := rfl
                                                                        have ecd : cCode { s with ret := [] } f = (acctAt s.now.accts (ctT f)).code := if_pos hnt
                                                                        have hbc : BV H79 (.slice ca9 (cChild { s with ret := [] } f 241).code.length cc9) (cChild { s with ret := [] } f 241).code := by
                                                                          show BV _ (.slice ca9 (cCode { s with ret := [] } f).length cc9) (cCode { s with ret := [] } f)
                                                                          rw [ecd]
                                                                          exact bv9
                                                                        have hbi : BV H79 (.slice ca7 (cChild { s with ret := [] } f 241).input.length cc7) (cChild { s with ret := [] } f 241).input := (bv7.mono g79.le)
                                                                        replace k19 : Blk w103 b19 (fcv (cChild { s with ret := [] } f 241) (.slice ca9 (cChild { s with ret := [] } f 241).code.length cc9) (.slice ca7 (cChild { s with ret := [] } f 241).input.length cc7) 0 0 0 (List.replicate 8 0)).toArray := by
                                                                          show Blk _ _ (fcv (cChild { s with ret := [] } f 241) (.slice ca9 (cCode { s with ret := [] } f).length cc9) (.slice ca7 (rdN f.mem (argN f.stack 3) (argN f.stack (3 + 1))).length cc7) 0 0 0 (List.replicate 8 0)).toArray
                                                                          rw [ecd, euu, fcv_ci]
                                                                          exact k19
                                                                        have hU : EFB (cChild { s with ret := [] } f 241) := ⟨by show 2 < 8; decide, natAt_lt _, Nat.zero_le _, Nat.zero_le _, fun _ h => absurd h (List.not_mem_nil), by show cG f 241 ≤ 1048576; omega, by show (ctT f) < A160; exact (Nat.mod_lt _ A160_pos), by show f.self < A160; exact hB.self, by show (argN f.stack 2) < W256; exact (argN_lt hB _), by show (cCode { s with ret := [] } f).length ≤ 512; rw [ecd]; exact hcl, by show (rdN f.mem (argN f.stack 3) (argN f.stack (3 + 1))).length ≤ 717280; exact hrl, Nat.zero_le _, Nat.zero_le _, hbc.dig, hbi.dig⟩
                                                                        have hmk : 100 * V15.marks.length + (gasS s9 + (c1 + (sentN f.gas (argN f.stack 0)))) ≤ 1048576 := by
                                                                          rw [hmr, hs9, gas_top (s := { cS { s with ret := [] } f with frames := low ++ [cWait f 241] }) (low := low) (f := cWait f 241) rfl]
                                                                          have h8 := hE.px.pot.m
                                                                          rw [gas_top hs] at h8
                                                                          show 100 * V.marks.length + ((low.map (·.gas)).sum + (f.gas - (sentN f.gas (argN f.stack 0))) + (c1 + (sentN f.gas (argN f.stack 0)))) ≤ _
                                                                          omega
                                                                        have hcc := call_slack f 241 (by decide) hc3 (by intro h _ _; exact h)
                                                                        have hle : (cChild { s with ret := [] } f 241).kind ≠ 3 → (cChild { s with ret := [] } f 241).kind ≠ 7 → (cChild { s with ret := [] } f 241).value ≤ (acctAt (entA1 s9.now (cChild { s with ret := [] } f 241)) (cChild { s with ret := [] } f 241).caller).bal := by
                                                                          intro h1 h2
                                                                          rw [show entA1 s9.now (cChild { s with ret := [] } f 241) = s9.now.accts from if_neg (by show ¬ crN 2 = true; decide), hac9]
                                                                          show argN f.stack 2 ≤ _
                                                                          exact Nat.le_of_not_lt hfb
                                                                        have hov9 : (cChild { s with ret := [] } f 241).kind ≠ 3 → (cChild { s with ret := [] } f 241).kind ≠ 7 → (cChild { s with ret := [] } f 241).value ≠ 0 → (acctAt (takeB (entA1 s9.now (cChild { s with ret := [] } f 241)) (cChild { s with ret := [] } f 241).caller (cChild { s with ret := [] } f 241).value) (cChild { s with ret := [] } f 241).self).bal + (cChild { s with ret := [] } f 241).value < W256 := by
                                                                          intro h1 h2 h3
                                                                          rw [show entA1 s9.now (cChild { s with ret := [] } f 241) = s9.now.accts from if_neg (by show ¬ crN 2 = true; decide), hac9]
                                                                          exact hov (Nat.le_of_not_lt hfb) h3
                                                                        have hph9 : s9.phase = 1 := by rw [hs9]; exact hp
                                                                        have hap9 : s9.applied ≤ 4 := by rw [hs9]; exact hap
                                                                        have hl9 : s9.frames.length ≤ 6 := by rw [hs9]; show (low ++ [_]).length ≤ 6; rw [List.length_append, List.length_singleton]; omega
                                                                        have hm9 : ms.length ≤ 6 := by rw [hms, List.length_map, List.length_append, List.length_singleton]; omega
                                                                        refine l_step (y_loadB agg_71 sz_71 (et (gS rfl g0) rfl) (by rw [List.size_toArray, fcv_len rfl]) (at1B k19)) ?_
                                                                        exact (by
                                                                          refine l_eff (e_callV cal_105 (aC (et (gS rfl g0) rfl) (aC (et g0 rfl) aN)) (m_enter hX.ex (by omega) hl9 hm9 (u := (cChild { s with ret := [] } f 241)) hbc hbi hU rfl (c' := c') hap9 hmk hcc hht hhf.1 hle hov9 (hX.ex.limR hph9) (hX.ex.madR hph9) (hX.ex.orgR hph9))) (fun v104 w104 h104 => ?_)
                                                                          obtain ⟨rfl, cl104, cs104, V104, y104⟩ := h104
                                                                          replace k9 := k9.ch y104.et.go.ch (by intro hm; (have e0 := hm); omega)
                                                                          replace k19 := k19.ch y104.et.go.ch (by intro hm; (have e0 := hm); omega)
                                                                          replace k23 := k23.ch y104.et.go.ch (by intro hm; (have e0 := hm); omega)
                                                                          replace k88 := k88.ch y104.et.go.ch (by intro hm; (have e0 := hm); omega)
                                                                          replace hX := hX.trans y104
                                                                          replace U := U.cc y104.et.go.ch (by intro b hb; exact .inl trivial)
                                                                          refine l_nil ?_
                                                                          refine end0 rfl ?_
                                                                          have hnf : ¬ cFail { s with ret := [] } f 241 low.length := by
                                                                            intro h9
                                                                            rcases h9 with h9 | h9
                                                                            · exact hd6 h9
                                                                            · exact hfb h9
                                                                          rw [show callY { s with ret := [] } f 241 low = entY { cS { s with ret := [] } f with frames := low ++ [cWait f 241] } (cChild { s with ret := [] } f 241) from if_neg hnf]
                                                                          rw [hs9] at hX
                                                                          rw [show ({ entY { cS { s with ret := [] } f with frames := low ++ [cWait f 241] } (cChild { s with ret := [] } f 241) with phase := 1 } : YSt) = entY { cS { s with ret := [] } f with frames := low ++ [cWait f 241] } (cChild { s with ret := [] } f 241) from ph1 hp] at hX
                                                                          refine ⟨rfl, XO.of hX ?_⟩
                                                                          rw [hms]
                                                                          show _ = ((low ++ [cWait f 241]) ++ [_]).map _
                                                                          rw [List.map_append, List.map_append, List.map_append]
                                                                          rfl))))))))
                                                      · skip
                                                        
                                                        have hnt : natAt (ctT f) ≠ 0 := by have := of_decide_eq_false cB10; omega
                                                        refine c_skip ?_
                                                        refine hK75 _ _ ?_
                                                        refine fg4 0 2 4 5 (gS rfl (gS rfl (gS rfl (gS rfl (gS rfl g0))))) (gS rfl (gS rfl (gS rfl (gS rfl g0)))) (gS rfl (gS rfl g0)) (gS rfl g0) (fun g => ?_)
                                                        refine c_seq (fun K105 hK105 => ?_)
                                                        exact (by
                                                          refine c_region ?_
                                                          refine l_step (y_moveV (et (gS rfl (gS rfl g0)) rfl)) ?_
                                                          refine l_step (y_nil (et g0 rfl)) ?_
                                                          refine l_step (y_fld fld_71_15 (et g0 rfl)) ?_
                                                          refine l_effN (e_store sz_60 (et g0 rfl) (cellsV rfl rfl) rfl (by intro v hv; simp at hv; subst hv; rfl) hX.ex.vl.kC (by rw [hX.ex.vl.size]; omega)) (fun v106 w106 h106 => ?_)
                                                          obtain ⟨rfl, x106⟩ := h106
                                                          have hv106 := hX.stOO hsf2 hph2 (p := 0) (by omega) (by omega) x106
                                                          replace k9 := k9.ch x106.ch (by intro hm; first | omega | (subst hm; omega))
                                                          replace k19 := k19.ch x106.ch (by intro hm; first | omega | (subst hm; omega))
                                                          replace k23 := k23.ch x106.ch (by intro hm; first | omega | (subst hm; omega))
                                                          replace hX := hv106
                                                          replace U := U.cc x106.ch (by intro b hb; exact .inl trivial)
                                                          obtain ⟨f4, hf4⟩ : ∃ f4 : YF, f4 = { f2 with outOff := 0 } := ⟨_, rfl⟩
                                                          obtain ⟨s4, hs4⟩ : ∃ s4 : YSt, s4 = { s2 with frames := low ++ [f4] } := ⟨_, rfl⟩
                                                          replace hX := hX.reS (show s4 = { s2 with frames := low ++ [{ f2 with outOff := 0 }] } by rw [hs4, hf4])
                                                          have hsf4 : s4.frames = low ++ [f4] := by rw [hs4]
                                                          have hph4 : s4.phase = 1 := by rw [hs4]; exact hph2
                                                          have hsk4 : f4.stack = f.stack := by first | (rw [hf4]; done) | (rw [hf4]; exact hsk2)
                                                          refine l_nil ?_
                                                          refine hK105 _ _ ?_
                                                          refine fg4 0 2 4 5 (gS rfl (gS rfl (gS rfl (gS rfl (gS rfl (gS rfl g0)))))) (gS rfl (gS rfl (gS rfl (gS rfl (gS rfl g0))))) (gS rfl (gS rfl (gS rfl (gS rfl g0)))) (gS rfl (gS rfl (gS rfl g0))) (fun g => ?_)
                                                          refine c_seq (fun K107 hK107 => ?_)
                                                          exact (by
                                                            refine c_region ?_
                                                            refine l_step (y_moveV (et (gS rfl (gS rfl g0)) rfl)) ?_
                                                            refine l_step (y_nil (et g0 rfl)) ?_
                                                            refine l_step (y_fld fld_71_16 (et g0 rfl)) ?_
                                                            refine l_effN (e_store sz_60 (et g0 rfl) (cellsV rfl rfl) rfl (by intro v hv; simp at hv; subst hv; rfl) hX.ex.vl.kC (by rw [hX.ex.vl.size]; omega)) (fun v108 w108 h108 => ?_)
                                                            obtain ⟨rfl, x108⟩ := h108
                                                            have hv108 := hX.stOL hsf4 hph4 (p := 0) (by omega) (by omega) x108
                                                            replace k9 := k9.ch x108.ch (by intro hm; first | omega | (subst hm; omega))
                                                            replace k19 := k19.ch x108.ch (by intro hm; first | omega | (subst hm; omega))
                                                            replace k23 := k23.ch x108.ch (by intro hm; first | omega | (subst hm; omega))
                                                            replace hX := hv108
                                                            replace U := U.cc x108.ch (by intro b hb; exact .inl trivial)
                                                            obtain ⟨f5, hf5⟩ : ∃ f5 : YF, f5 = { f4 with outLen := 0 } := ⟨_, rfl⟩
                                                            obtain ⟨s5, hs5⟩ : ∃ s5 : YSt, s5 = { s4 with frames := low ++ [f5] } := ⟨_, rfl⟩
                                                            replace hX := hX.reS (show s5 = { s4 with frames := low ++ [{ f4 with outLen := 0 }] } by rw [hs5, hf5])
                                                            have hsf5 : s5.frames = low ++ [f5] := by rw [hs5]
                                                            have hph5 : s5.phase = 1 := by rw [hs5]; exact hph4
                                                            have hsk5 : f5.stack = f.stack := by first | (rw [hf5]; done) | (rw [hf5]; exact hsk4)
                                                            have hnw4 := hX.ex.vl.new
                                                            have hfz4 := hX.ex.vl.fz
                                                            refine l_nil ?_
                                                            refine hK107 _ _ ?_
                                                            refine fg4 0 2 4 5 (gS rfl (gS rfl (gS rfl (gS rfl (gS rfl (gS rfl g0)))))) (gS rfl (gS rfl (gS rfl (gS rfl (gS rfl g0))))) (gS rfl (gS rfl (gS rfl (gS rfl g0)))) (gS rfl (gS rfl (gS rfl g0))) (fun g => ?_)
                                                            refine c_seq (fun K109 hK109 => ?_)
                                                            refine c_seq (fun K110 hK110 => ?_)
                                                            exact (by
                                                              refine c_region ?_
                                                              refine l_step (y_moveV (et (gS rfl (gS rfl (gS rfl g0))) rfl)) ?_
                                                              refine l_step (y_moveV (et (gS rfl (gS rfl (gS rfl g0))) rfl)) ?_
                                                              refine l_step (y_moveV (et (gS rfl (gS rfl g0)) rfl)) ?_
                                                              refine l_step (y_add (et g0 rfl) rfl (addIN (x := 3) (y := 3) ?_)) ?_
                                                              omega
                                                              have hB5 := hX.ex.fbT hsf5
                                                              refine l_eff (e_callV cal_264 (aC (et (gS rfl (gS rfl (gS rfl g0))) rfl) (aC (et (gS rfl (gS rfl g0)) rfl) (aC (et g0 rfl) aN))) (m_arg hX.ex hsf5 hph5 rfl (3 + 3) (by decide))) (fun v111 w111 h111 => ?_)
                                                              obtain ⟨rfl, u111⟩ := h111
                                                              replace k9 := k9.up u111
                                                              replace k19 := k19.up u111
                                                              replace k23 := k23.up u111
                                                              replace hX := hX.up u111
                                                              replace U := U.tr u111
                                                              have hnw4 := hX.ex.vl.new
                                                              have hfz4 := hX.ex.vl.fz
                                                              refine l_eff (e_alloc zr_65) (fun v112 w112 h112 => ?_)
                                                              obtain ⟨b112, rfl, n112⟩ := h112
                                                              have d9_112 : b9 < b112 := Nat.lt_of_lt_of_le k9.lt n112.fresh
                                                              have d19_112 : b19 < b112 := Nat.lt_of_lt_of_le k19.lt n112.fresh
                                                              have d23_112 : b23 < b112 := Nat.lt_of_lt_of_le k23.lt n112.fresh
                                                              have f112 : w.heap.size ≤ b112 := Nat.le_trans U.size n112.fresh
                                                              replace k9 := k9.up n112.up
                                                              replace k19 := k19.up n112.up
                                                              replace k23 := k23.up n112.up
                                                              replace hX := hX.up n112.up
                                                              replace U := U.tr n112.up
                                                              have k112 := n112.blk
                                                              obtain ⟨zs112, hz112, k112⟩ : ∃ cs : Array Value, cs.size = 4 ∧ Blk w112 b112 cs := ⟨_, rfl, k112⟩
                                                              have nc112 := hnw4 b112 n112.fresh
                                                              have nh112 : ¬ H66.has b112 := fun hh => by have h9 := hfz4.lt hh; have h8 := n112.fresh; omega
                                                              exact (by
                                                                refine l_effN (e_store sz_65 (et g0 rfl) (cellsV (et (gS rfl g0) rfl) rfl) rfl (by exact one_uL _) k112 (by (first | (rw [hz112]; exact Nat.le_refl _) | (rw [List.size_toArray, wL_len]; exact Nat.le_refl _)))) (fun v113 w113 h113 => ?_)
                                                                obtain ⟨rfl, x113⟩ := h113
                                                                replace k9 := k9.ch x113.ch (by omega)
                                                                replace k19 := k19.ch x113.ch (by omega)
                                                                replace k23 := k23.ch x113.ch (by omega)
                                                                replace hX := hX.ch x113.ch (by first | omega | (intro b hb; first | (subst hb; first | exact ⟨by omega, fun hh => by have := hfz.lt hh; omega, by omega⟩ | exact ⟨by omega, by assumption, by omega⟩) | (rcases hb with hb | hb <;> (subst hb; first | exact ⟨by omega, fun hh => by have := hfz.lt hh; omega, by omega⟩ | exact ⟨by omega, by assumption, by omega⟩))))
                                                                replace k112 := x113.blk.full (by first | (rw [hz112]; rfl) | (rw [List.size_toArray, wL_len, wL_len]))
                                                                replace U := U.st x113 (.inr f112)
                                                                refine l_nil ?_
                                                                refine hK110 _ _ ?_
                                                                refine fg5 0 2 4 5 9 (gS rfl (gS rfl (gS rfl (gS rfl (gS rfl (gS rfl (gS rfl (gS rfl (gS rfl g0))))))))) (gS rfl (gS rfl (gS rfl (gS rfl (gS rfl (gS rfl (gS rfl (gS rfl g0)))))))) (gS rfl (gS rfl (gS rfl (gS rfl (gS rfl (gS rfl (gS rfl g0))))))) (gS rfl (gS rfl (gS rfl (gS rfl (gS rfl (gS rfl g0)))))) g0 (fun g => ?_)
                                                                refine c_seq (fun K114 hK114 => ?_)
                                                                exact (by
                                                                  refine c_region ?_
                                                                  refine l_step (y_loadB agg_65 sz_65 (et g0 rfl) rfl (at1B k112)) ?_
                                                                  refine l_eff (e_callV cal_78 (aC (et g0 rfl) aN) (isZero_spec _ _ (argN_lt hB5 _))) (fun v115 w115 h115 => ?_)
                                                                  obtain ⟨rfl, u115⟩ := h115
                                                                  replace k9 := k9.up u115
                                                                  replace k19 := k19.up u115
                                                                  replace k23 := k23.up u115
                                                                  replace k112 := k112.up u115
                                                                  replace hX := hX.up u115
                                                                  replace U := U.tr u115
                                                                  refine l_step (y_not (et g0 rfl)) ?_
                                                                  refine l_nil ?_
                                                                  refine hK114 _ _ ?_
                                                                  refine fg6 0 2 4 5 9 187 (gS rfl (gS rfl (gS rfl (gS rfl (gS rfl (gS rfl (gS rfl g0))))))) (gS rfl (gS rfl (gS rfl (gS rfl (gS rfl (gS rfl g0)))))) (gS rfl (gS rfl (gS rfl (gS rfl (gS rfl g0))))) (gS rfl (gS rfl (gS rfl (gS rfl g0)))) (gS rfl (gS rfl (gS rfl g0))) g0 (fun g => ?_)
                                                                  refine c_cond (et g0 rfl) (fun cB11 => ?_) (fun cB11 => ?_)
                                                                  · skip
                                                                    rw [hsk5] at cB11
                                                                    have hn0 : argN f.stack (3 + 3) ≠ 0 := by simpa using cB11
                                                                    have hou := hout hn0
                                                                    rw [hsk5] at k112
                                                                    refine c_seq (fun K117 hK117 => ?_)
                                                                    exact (by
                                                                      refine c_region ?_
                                                                      refine l_step (y_moveV (et (gS rfl (gS rfl (gS rfl (gS rfl g0)))) rfl)) ?_
                                                                      refine l_step (y_moveV (et (gS rfl (gS rfl (gS rfl (gS rfl (gS rfl (gS rfl g0)))))) rfl)) ?_
                                                                      refine l_step (y_moveV (et (gS rfl (gS rfl (gS rfl (gS rfl (gS rfl (gS rfl g0)))))) rfl)) ?_
                                                                      refine l_step (y_moveV (et (gS rfl (gS rfl (gS rfl (gS rfl (gS rfl g0))))) rfl)) ?_
                                                                      refine l_step (y_add (et g0 rfl) rfl (addIN (x := 3) (y := 2) ?_)) ?_
                                                                      omega
                                                                      refine l_eff (e_callV cal_264 (aC (et (gS rfl (gS rfl (gS rfl g0))) rfl) (aC (et (gS rfl (gS rfl g0)) rfl) (aC (et g0 rfl) aN))) (m_arg hX.ex hsf5 hph5 rfl (3 + 2) (by decide))) (fun v118 w118 h118 => ?_)
                                                                      obtain ⟨rfl, u118⟩ := h118
                                                                      replace k9 := k9.up u118
                                                                      replace k19 := k19.up u118
                                                                      replace k23 := k23.up u118
                                                                      replace k112 := k112.up u118
                                                                      replace hX := hX.up u118
                                                                      replace U := U.tr u118
                                                                      refine l_eff (e_callV cal_299 (aC (et g0 rfl) aN) (m_small _ _ (by rw [hsk5]; omega))) (fun v119 w119 h119 => ?_)
                                                                      obtain ⟨rfl, u119⟩ := h119
                                                                      replace k9 := k9.up u119
                                                                      replace k19 := k19.up u119
                                                                      replace k23 := k23.up u119
                                                                      replace k112 := k112.up u119
                                                                      replace hX := hX.up u119
                                                                      replace U := U.tr u119
                                                                      refine l_step (y_nil (et (gS rfl (gS rfl (gS rfl (gS rfl (gS rfl (gS rfl g0)))))) rfl)) ?_
                                                                      refine l_step (y_fld fld_71_15 (et g0 rfl)) ?_
                                                                      refine l_effN (e_store sz_60 (et g0 rfl) (cellsV (et (gS rfl (gS rfl g0)) rfl) rfl) rfl (by intro v hv; simp at hv; subst hv; rfl) hX.ex.vl.kC (by rw [hX.ex.vl.size]; omega)) (fun v120 w120 h120 => ?_)
                                                                      obtain ⟨rfl, x120⟩ := h120
                                                                      rw [hsk5] at x120
                                                                      have hv120 := hX.stOO hsf5 hph5 (p := argN f.stack (3 + 2)) (by omega) (by omega) x120
                                                                      replace k9 := k9.ch x120.ch (by intro hm; first | omega | (subst hm; omega))
                                                                      replace k19 := k19.ch x120.ch (by intro hm; first | omega | (subst hm; omega))
                                                                      replace k23 := k23.ch x120.ch (by intro hm; first | omega | (subst hm; omega))
                                                                      replace k112 := k112.ch x120.ch (by intro hm; first | omega | (subst hm; omega))
                                                                      replace hX := hv120
                                                                      replace U := U.cc x120.ch (by intro b hb; exact .inl trivial)
                                                                      obtain ⟨f6, hf6⟩ : ∃ f6 : YF, f6 = { f5 with outOff := argN f.stack (3 + 2) } := ⟨_, rfl⟩
                                                                      obtain ⟨s6, hs6⟩ : ∃ s6 : YSt, s6 = { s5 with frames := low ++ [f6] } := ⟨_, rfl⟩
                                                                      replace hX := hX.reS (show s6 = { s5 with frames := low ++ [{ f5 with outOff := argN f.stack (3 + 2) }] } by rw [hs6, hf6])
                                                                      have hsf6 : s6.frames = low ++ [f6] := by rw [hs6]
                                                                      have hph6 : s6.phase = 1 := by rw [hs6]; exact hph5
                                                                      have hsk6 : f6.stack = f.stack := by first | (rw [hf6]; done) | (rw [hf6]; exact hsk5)
                                                                      refine l_nil ?_
                                                                      refine hK117 _ _ ?_
                                                                      refine fg5 0 2 4 5 9 (gS rfl (gS rfl (gS rfl (gS rfl (gS rfl (gS rfl (gS rfl (gS rfl (gS rfl (gS rfl (gS rfl (gS rfl (gS rfl (gS rfl g0)))))))))))))) (gS rfl (gS rfl (gS rfl (gS rfl (gS rfl (gS rfl (gS rfl (gS rfl (gS rfl (gS rfl (gS rfl (gS rfl (gS rfl g0))))))))))))) (gS rfl (gS rfl (gS rfl (gS rfl (gS rfl (gS rfl (gS rfl (gS rfl (gS rfl (gS rfl (gS rfl (gS rfl g0)))))))))))) (gS rfl (gS rfl (gS rfl (gS rfl (gS rfl (gS rfl (gS rfl (gS rfl (gS rfl (gS rfl (gS rfl g0))))))))))) (gS rfl (gS rfl (gS rfl (gS rfl (gS rfl (gS rfl (gS rfl (gS rfl (gS rfl (gS rfl g0)))))))))) (fun g => ?_)
                                                                      refine c_region ?_
                                                                      exact (by
                                                                        refine l_step (y_moveV (et (gS rfl (gS rfl (gS rfl g0))) rfl)) ?_
                                                                        refine l_step (y_loadB agg_65 sz_65 (et (gS rfl g0) rfl) rfl (at1B k112)) ?_
                                                                        refine l_eff (e_callV cal_299 (aC (et g0 rfl) aN) (m_small _ _ (by omega))) (fun v121 w121 h121 => ?_)
                                                                        obtain ⟨rfl, u121⟩ := h121
                                                                        replace k9 := k9.up u121
                                                                        replace k19 := k19.up u121
                                                                        replace k23 := k23.up u121
                                                                        replace k112 := k112.up u121
                                                                        replace hX := hX.up u121
                                                                        replace U := U.tr u121
                                                                        refine l_step (y_nil (et (gS rfl (gS rfl g0)) rfl)) ?_
                                                                        refine l_step (y_fld fld_71_16 (et g0 rfl)) ?_
                                                                        refine l_effN (e_store sz_60 (et g0 rfl) (cellsV (et (gS rfl (gS rfl g0)) rfl) rfl) rfl (by intro v hv; simp at hv; subst hv; rfl) hX.ex.vl.kC (by rw [hX.ex.vl.size]; omega)) (fun v122 w122 h122 => ?_)
                                                                        obtain ⟨rfl, x122⟩ := h122
                                                                        have hv122 := hX.stOL hsf6 hph6 (p := argN f.stack (3 + 3)) (by omega) (by omega) x122
                                                                        replace k9 := k9.ch x122.ch (by intro hm; first | omega | (subst hm; omega))
                                                                        replace k19 := k19.ch x122.ch (by intro hm; first | omega | (subst hm; omega))
                                                                        replace k23 := k23.ch x122.ch (by intro hm; first | omega | (subst hm; omega))
                                                                        replace k112 := k112.ch x122.ch (by intro hm; first | omega | (subst hm; omega))
                                                                        replace hX := hv122
                                                                        replace U := U.cc x122.ch (by intro b hb; exact .inl trivial)
                                                                        obtain ⟨f7, hf7⟩ : ∃ f7 : YF, f7 = { f6 with outLen := argN f.stack (3 + 3) } := ⟨_, rfl⟩
                                                                        obtain ⟨s7, hs7⟩ : ∃ s7 : YSt, s7 = { s6 with frames := low ++ [f7] } := ⟨_, rfl⟩
                                                                        replace hX := hX.reS (show s7 = { s6 with frames := low ++ [{ f6 with outLen := argN f.stack (3 + 3) }] } by rw [hs7, hf7])
                                                                        have hsf7 : s7.frames = low ++ [f7] := by rw [hs7]
                                                                        have hph7 : s7.phase = 1 := by rw [hs7]; exact hph6
                                                                        have hsk7 : f7.stack = f.stack := by first | (rw [hf7]; done) | (rw [hf7]; exact hsk6)
                                                                        refine l_nil ?_
                                                                        refine hK109 _ _ ?_
                                                                        refine fg4 0 2 4 5 (gS rfl (gS rfl (gS rfl (gS rfl (gS rfl (gS rfl (gS rfl (gS rfl (gS rfl g0))))))))) (gS rfl (gS rfl (gS rfl (gS rfl (gS rfl (gS rfl (gS rfl (gS rfl g0)))))))) (gS rfl (gS rfl (gS rfl (gS rfl (gS rfl (gS rfl (gS rfl g0))))))) (gS rfl (gS rfl (gS rfl (gS rfl (gS rfl (gS rfl g0)))))) (fun g => ?_)
                                                                        refine c_seq (fun K123 hK123 => ?_)
                                                                        exact (by
                                                                          refine c_region ?_
                                                                          refine l_step (y_moveV (et (gS rfl (gS rfl (gS rfl g0))) rfl)) ?_
                                                                          refine l_step (y_moveV (et (gS rfl (gS rfl (gS rfl g0))) rfl)) ?_
                                                                          refine l_step (y_moveV (et (gS rfl (gS rfl g0)) rfl)) ?_
                                                                          refine l_step (y_add (et g0 rfl) rfl (addIN (x := 3) (y := 4) ?_)) ?_
                                                                          omega
                                                                          refine l_step (y_conv Hvaa.underlying3 Hvaa.underlying67 (et g0 rfl) (wrapU_id uk16 ?_)) ?_
                                                                          omega
                                                                          refine l_step (y_bld bN bld65_z) ?_
                                                                          refine l_eff (e_callV cal_259 (aC (et (gS rfl (gS rfl (gS rfl (gS rfl (gS rfl g0))))) rfl) (aC (et (gS rfl (gS rfl (gS rfl (gS rfl g0)))) rfl) (aC (et (gS rfl g0) rfl) (aC rfl (aC (et g0 rfl) (aC (v := .int .u16 ((0 : Nat) : Int)) rfl aN)))))) (m_settle0 hX.ex hsf7 hph7 rfl 7 0 0 (by rw [hsk7]; omega) (by decide) (by rw [hf7, hf6, hf5, hf4, hf2]; show f.pc + 0 ≤ 560; omega))) (fun v124 w124 h124 => ?_)
                                                                          obtain ⟨rfl, cs124, y124⟩ := h124
                                                                          replace k9 := k9.ch y124.et.go.ch (by intro hm; (have e0 := hm); omega)
                                                                          replace k19 := k19.ch y124.et.go.ch (by intro hm; (have e0 := hm); omega)
                                                                          replace k23 := k23.ch y124.et.go.ch (by intro hm; (have e0 := hm); omega)
                                                                          replace k112 := k112.ch y124.et.go.ch (by intro hm; (have e0 := hm); omega)
                                                                          replace hX := hX.trans y124
                                                                          replace U := U.cc y124.et.go.ch (by intro b hb; exact .inl trivial)
                                                                          have ew : setF f7 7 false 0 0 = cWait f 241 := by rw [hf7, hf6, hf5, hf4, hf2]; exact cwait_1 (q := 241) (tk := 7) (i := 3) (show tkN 241 = 7 from rfl) rfl hn0
                                                                          rw [ew] at hX
                                                                          obtain ⟨s9, hs9⟩ : ∃ s9 : YSt, s9 = { cS { s with ret := [] } f with frames := low ++ [cWait f 241] } := ⟨_, rfl⟩
                                                                          replace hX := hX.reS (show s9 = { s7 with frames := low ++ [cWait f 241] } by rw [hs9, hs7, hs6, hs5, hs4, hs2, hs1, hs0])
                                                                          have hac9 : s9.now.accts = s.now.accts := by rw [hs9]; rfl
                                                                          refine l_nil ?_
                                                                          refine hK123 _ _ ?_
                                                                          refine fg2 0 4 (gS rfl (gS rfl (gS rfl (gS rfl (gS rfl (gS rfl (gS rfl (gS rfl (gS rfl (gS rfl g0)))))))))) (gS rfl (gS rfl (gS rfl (gS rfl (gS rfl (gS rfl (gS rfl (gS rfl g0)))))))) (fun g => ?_)
                                                                          refine c_region ?_
                                                                          refine l_step (y_moveV (et (gS rfl g0) rfl)) ?_
                                                                          have euu : (cChild { s with ret := [] } f 241) = { cFr 2 f.static (argN f.stack 2) (ctT f) f.self (cG f 241) (natAt (ctT f)) [] [] with code := cCode { s with ret := [] } f, input := (rdN f.mem (argN f.stack 3) (argN f.stack (3 + 1))) } := rfl
                                                                          have ecd : cCode { s with ret := [] } f = [] := if_neg hnt
                                                                          have hbc : BV H66 (.slice none (cChild { s with ret := [] } f 241).code.length 0) (cChild { s with ret := [] } f 241).code := by
                                                                            show BV _ (.slice none (cCode { s with ret := [] } f).length 0) (cCode { s with ret := [] } f)
                                                                            rw [ecd]
                                                                            exact (BV.nil _)
                                                                          have hbi : BV H66 (.slice ca7 (cChild { s with ret := [] } f 241).input.length cc7) (cChild { s with ret := [] } f 241).input := bv7
                                                                          replace k19 : Blk w124 b19 (fcv (cChild { s with ret := [] } f 241) (.slice none (cChild { s with ret := [] } f 241).code.length 0) (.slice ca7 (cChild { s with ret := [] } f 241).input.length cc7) 0 0 0 (List.replicate 8 0)).toArray := by
                                                                            show Blk _ _ (fcv (cChild { s with ret := [] } f 241) (.slice none (cCode { s with ret := [] } f).length 0) (.slice ca7 (rdN f.mem (argN f.stack 3) (argN f.stack (3 + 1))).length cc7) 0 0 0 (List.replicate 8 0)).toArray
                                                                            rw [ecd, euu, fcv_ci]
                                                                            exact k19
                                                                          have hU : EFB (cChild { s with ret := [] } f 241) := ⟨by show 2 < 8; decide, natAt_lt _, Nat.zero_le _, Nat.zero_le _, fun _ h => absurd h (List.not_mem_nil), by show cG f 241 ≤ 1048576; omega, by show (ctT f) < A160; exact (Nat.mod_lt _ A160_pos), by show f.self < A160; exact hB.self, by show (argN f.stack 2) < W256; exact (argN_lt hB _), by show (cCode { s with ret := [] } f).length ≤ 512; rw [ecd]; exact Nat.zero_le _, by show (rdN f.mem (argN f.stack 3) (argN f.stack (3 + 1))).length ≤ 717280; exact hrl, Nat.zero_le _, Nat.zero_le _, hbc.dig, hbi.dig⟩
                                                                          have hmk : 100 * V15.marks.length + (gasS s9 + (c1 + (sentN f.gas (argN f.stack 0)))) ≤ 1048576 := by
                                                                            rw [hmr, hs9, gas_top (s := { cS { s with ret := [] } f with frames := low ++ [cWait f 241] }) (low := low) (f := cWait f 241) rfl]
                                                                            have h8 := hE.px.pot.m
                                                                            rw [gas_top hs] at h8
                                                                            show 100 * V.marks.length + ((low.map (·.gas)).sum + (f.gas - (sentN f.gas (argN f.stack 0))) + (c1 + (sentN f.gas (argN f.stack 0)))) ≤ _
                                                                            omega
                                                                          have hcc := call_slack f 241 (by decide) hc3 (by intro h _ _; exact h)
                                                                          have hle : (cChild { s with ret := [] } f 241).kind ≠ 3 → (cChild { s with ret := [] } f 241).kind ≠ 7 → (cChild { s with ret := [] } f 241).value ≤ (acctAt (entA1 s9.now (cChild { s with ret := [] } f 241)) (cChild { s with ret := [] } f 241).caller).bal := by
                                                                            intro h1 h2
                                                                            rw [show entA1 s9.now (cChild { s with ret := [] } f 241) = s9.now.accts from if_neg (by show ¬ crN 2 = true; decide), hac9]
                                                                            show argN f.stack 2 ≤ _
                                                                            exact Nat.le_of_not_lt hfb
                                                                          have hov9 : (cChild { s with ret := [] } f 241).kind ≠ 3 → (cChild { s with ret := [] } f 241).kind ≠ 7 → (cChild { s with ret := [] } f 241).value ≠ 0 → (acctAt (takeB (entA1 s9.now (cChild { s with ret := [] } f 241)) (cChild { s with ret := [] } f 241).caller (cChild { s with ret := [] } f 241).value) (cChild { s with ret := [] } f 241).self).bal + (cChild { s with ret := [] } f 241).value < W256 := by
                                                                            intro h1 h2 h3
                                                                            rw [show entA1 s9.now (cChild { s with ret := [] } f 241) = s9.now.accts from if_neg (by show ¬ crN 2 = true; decide), hac9]
                                                                            exact hov (Nat.le_of_not_lt hfb) h3
                                                                          have hph9 : s9.phase = 1 := by rw [hs9]; exact hp
                                                                          have hap9 : s9.applied ≤ 4 := by rw [hs9]; exact hap
                                                                          have hl9 : s9.frames.length ≤ 6 := by rw [hs9]; show (low ++ [_]).length ≤ 6; rw [List.length_append, List.length_singleton]; omega
                                                                          have hm9 : ms.length ≤ 6 := by rw [hms, List.length_map, List.length_append, List.length_singleton]; omega
                                                                          refine l_step (y_loadB agg_71 sz_71 (et (gS rfl g0) rfl) (by rw [List.size_toArray, fcv_len rfl]) (at1B k19)) ?_
                                                                          exact (by
                                                                            refine l_eff (e_callV cal_105 (aC (et (gS rfl g0) rfl) (aC (et g0 rfl) aN)) (m_enter hX.ex (by omega) hl9 hm9 (u := (cChild { s with ret := [] } f 241)) hbc hbi hU rfl (c' := c') hap9 hmk hcc hht hhf.1 hle hov9 (hX.ex.limR hph9) (hX.ex.madR hph9) (hX.ex.orgR hph9))) (fun v125 w125 h125 => ?_)
                                                                            obtain ⟨rfl, cl125, cs125, V125, y125⟩ := h125
                                                                            replace k9 := k9.ch y125.et.go.ch (by intro hm; (have e0 := hm); omega)
                                                                            replace k19 := k19.ch y125.et.go.ch (by intro hm; (have e0 := hm); omega)
                                                                            replace k23 := k23.ch y125.et.go.ch (by intro hm; (have e0 := hm); omega)
                                                                            replace k112 := k112.ch y125.et.go.ch (by intro hm; (have e0 := hm); omega)
                                                                            replace hX := hX.trans y125
                                                                            replace U := U.cc y125.et.go.ch (by intro b hb; exact .inl trivial)
                                                                            refine l_nil ?_
                                                                            refine end0 rfl ?_
                                                                            have hnf : ¬ cFail { s with ret := [] } f 241 low.length := by
                                                                              intro h9
                                                                              rcases h9 with h9 | h9
                                                                              · exact hd6 h9
                                                                              · exact hfb h9
                                                                            rw [show callY { s with ret := [] } f 241 low = entY { cS { s with ret := [] } f with frames := low ++ [cWait f 241] } (cChild { s with ret := [] } f 241) from if_neg hnf]
                                                                            rw [hs9] at hX
                                                                            rw [show ({ entY { cS { s with ret := [] } f with frames := low ++ [cWait f 241] } (cChild { s with ret := [] } f 241) with phase := 1 } : YSt) = entY { cS { s with ret := [] } f with frames := low ++ [cWait f 241] } (cChild { s with ret := [] } f 241) from ph1 hp] at hX
                                                                            refine ⟨rfl, XO.of hX ?_⟩
                                                                            rw [hms]
                                                                            show _ = ((low ++ [cWait f 241]) ++ [_]).map _
                                                                            rw [List.map_append, List.map_append, List.map_append]
                                                                            rfl))))
                                                                  · skip
                                                                    rw [hsk5] at cB11
                                                                    have hn0 : argN f.stack (3 + 3) = 0 := by simpa using cB11
                                                                    refine c_skip ?_
                                                                    refine hK109 _ _ ?_
                                                                    refine fg4 0 2 4 5 (gS rfl (gS rfl (gS rfl (gS rfl (gS rfl g0))))) (gS rfl (gS rfl (gS rfl (gS rfl g0)))) (gS rfl (gS rfl (gS rfl g0))) (gS rfl (gS rfl g0)) (fun g => ?_)
                                                                    refine c_seq (fun K126 hK126 => ?_)
                                                                    exact (by
                                                                      refine c_region ?_
                                                                      refine l_step (y_moveV (et (gS rfl (gS rfl (gS rfl g0))) rfl)) ?_
                                                                      refine l_step (y_moveV (et (gS rfl (gS rfl (gS rfl g0))) rfl)) ?_
                                                                      refine l_step (y_moveV (et (gS rfl (gS rfl g0)) rfl)) ?_
                                                                      refine l_step (y_add (et g0 rfl) rfl (addIN (x := 3) (y := 4) ?_)) ?_
                                                                      omega
                                                                      refine l_step (y_conv Hvaa.underlying3 Hvaa.underlying67 (et g0 rfl) (wrapU_id uk16 ?_)) ?_
                                                                      omega
                                                                      refine l_step (y_bld bN bld65_z) ?_
                                                                      refine l_eff (e_callV cal_259 (aC (et (gS rfl (gS rfl (gS rfl (gS rfl (gS rfl g0))))) rfl) (aC (et (gS rfl (gS rfl (gS rfl (gS rfl g0)))) rfl) (aC (et (gS rfl g0) rfl) (aC rfl (aC (et g0 rfl) (aC (v := .int .u16 ((0 : Nat) : Int)) rfl aN)))))) (m_settle0 hX.ex hsf5 hph5 rfl 7 0 0 (by rw [hsk5]; omega) (by decide) (by rw [hf5, hf4, hf2]; show f.pc + 0 ≤ 560; omega))) (fun v127 w127 h127 => ?_)
                                                                      obtain ⟨rfl, cs127, y127⟩ := h127
                                                                      replace k9 := k9.ch y127.et.go.ch (by intro hm; (have e0 := hm); omega)
                                                                      replace k19 := k19.ch y127.et.go.ch (by intro hm; (have e0 := hm); omega)
                                                                      replace k23 := k23.ch y127.et.go.ch (by intro hm; (have e0 := hm); omega)
                                                                      replace k112 := k112.ch y127.et.go.ch (by intro hm; (have e0 := hm); omega)
                                                                      replace hX := hX.trans y127
                                                                      replace U := U.cc y127.et.go.ch (by intro b hb; exact .inl trivial)
                                                                      have ew : setF f5 7 false 0 0 = cWait f 241 := by rw [hf5, hf4, hf2]; exact cwait_0 (q := 241) (tk := 7) (i := 3) (show tkN 241 = 7 from rfl) rfl hn0
                                                                      rw [ew] at hX
                                                                      obtain ⟨s9, hs9⟩ : ∃ s9 : YSt, s9 = { cS { s with ret := [] } f with frames := low ++ [cWait f 241] } := ⟨_, rfl⟩
                                                                      replace hX := hX.reS (show s9 = { s5 with frames := low ++ [cWait f 241] } by rw [hs9, hs5, hs4, hs2, hs1, hs0])
                                                                      have hac9 : s9.now.accts = s.now.accts := by rw [hs9]; rfl
                                                                      refine l_nil ?_
                                                                      refine hK126 _ _ ?_
                                                                      refine fg2 0 4 (gS rfl (gS rfl (gS rfl (gS rfl (gS rfl (gS rfl (gS rfl (gS rfl (gS rfl (gS rfl g0)))))))))) (gS rfl (gS rfl (gS rfl (gS rfl (gS rfl (gS rfl (gS rfl (gS rfl g0)))))))) (fun g => ?_)
                                                                      refine c_region ?_
                                                                      refine l_step (y_moveV (et (gS rfl g0) rfl)) ?_
                                                                      have euu : (cChild { s with ret := [] } f 241) = { cFr 2 f.static (argN f.stack 2) (ctT f) f.self (cG f 241) (natAt (ctT f)) [] [] with code := cCode { s with ret := [] } f, input := (rdN f.mem (argN f.stack 3) (argN f.stack (3 + 1))) } := rfl
                                                                      have ecd : cCode { s with ret := [] } f = [] := if_neg hnt
                                                                      have hbc : BV H66 (.slice none (cChild { s with ret := [] } f 241).code.length 0) (cChild { s with ret := [] } f 241).code := by
                                                                        show BV _ (.slice none (cCode { s with ret := [] } f).length 0) (cCode { s with ret := [] } f)
                                                                        rw [ecd]
                                                                        exact (BV.nil _)
                                                                      have hbi : BV H66 (.slice ca7 (cChild { s with ret := [] } f 241).input.length cc7) (cChild { s with ret := [] } f 241).input := bv7
                                                                      replace k19 : Blk w127 b19 (fcv (cChild { s with ret := [] } f 241) (.slice none (cChild { s with ret := [] } f 241).code.length 0) (.slice ca7 (cChild { s with ret := [] } f 241).input.length cc7) 0 0 0 (List.replicate 8 0)).toArray := by
                                                                        show Blk _ _ (fcv (cChild { s with ret := [] } f 241) (.slice none (cCode { s with ret := [] } f).length 0) (.slice ca7 (rdN f.mem (argN f.stack 3) (argN f.stack (3 + 1))).length cc7) 0 0 0 (List.replicate 8 0)).toArray
                                                                        rw [ecd, euu, fcv_ci]
                                                                        exact k19
                                                                      have hU : EFB (cChild { s with ret := [] } f 241) := ⟨by show 2 < 8; decide, natAt_lt _, Nat.zero_le _, Nat.zero_le _, fun _ h => absurd h (List.not_mem_nil), by show cG f 241 ≤ 1048576; omega, by show (ctT f) < A160; exact (Nat.mod_lt _ A160_pos), by show f.self < A160; exact hB.self, by show (argN f.stack 2) < W256; exact (argN_lt hB _), by show (cCode { s with ret := [] } f).length ≤ 512; rw [ecd]; exact Nat.zero_le _, by show (rdN f.mem (argN f.stack 3) (argN f.stack (3 + 1))).length ≤ 717280; exact hrl, Nat.zero_le _, Nat.zero_le _, hbc.dig, hbi.dig⟩
                                                                      have hmk : 100 * V15.marks.length + (gasS s9 + (c1 + (sentN f.gas (argN f.stack 0)))) ≤ 1048576 := by
                                                                        rw [hmr, hs9, gas_top (s := { cS { s with ret := [] } f with frames := low ++ [cWait f 241] }) (low := low) (f := cWait f 241) rfl]
                                                                        have h8 := hE.px.pot.m
                                                                        rw [gas_top hs] at h8
                                                                        show 100 * V.marks.length + ((low.map (·.gas)).sum + (f.gas - (sentN f.gas (argN f.stack 0))) + (c1 + (sentN f.gas (argN f.stack 0)))) ≤ _
                                                                        omega
                                                                      have hcc := call_slack f 241 (by decide) hc3 (by intro h _ _; exact h)
                                                                      have hle : (cChild { s with ret := [] } f 241).kind ≠ 3 → (cChild { s with ret := [] } f 241).kind ≠ 7 → (cChild { s with ret := [] } f 241).value ≤ (acctAt (entA1 s9.now (cChild { s with ret := [] } f 241)) (cChild { s with ret := [] } f 241).caller).bal := by
                                                                        intro h1 h2
                                                                        rw [show entA1 s9.now (cChild { s with ret := [] } f 241) = s9.now.accts from if_neg (by show ¬ crN 2 = true; decide), hac9]
                                                                        show argN f.stack 2 ≤ _
                                                                        exact Nat.le_of_not_lt hfb
                                                                      have hov9 : (cChild { s with ret := [] } f 241).kind ≠ 3 → (cChild { s with ret := [] } f 241).kind ≠ 7 → (cChild { s with ret := [] } f 241).value ≠ 0 → (acctAt (takeB (entA1 s9.now (cChild { s with ret := [] } f 241)) (cChild { s with ret := [] } f 241).caller (cChild { s with ret := [] } f 241).value) (cChild { s with ret := [] } f 241).self).bal + (cChild { s with ret := [] } f 241).value < W256 := by
                                                                        intro h1 h2 h3
                                                                        rw [show entA1 s9.now (cChild { s with ret := [] } f 241) = s9.now.accts from if_neg (by show ¬ crN 2 = true; decide), hac9]
                                                                        exact hov (Nat.le_of_not_lt hfb) h3
                                                                      have hph9 : s9.phase = 1 := by rw [hs9]; exact hp
                                                                      have hap9 : s9.applied ≤ 4 := by rw [hs9]; exact hap
                                                                      have hl9 : s9.frames.length ≤ 6 := by rw [hs9]; show (low ++ [_]).length ≤ 6; rw [List.length_append, List.length_singleton]; omega
                                                                      have hm9 : ms.length ≤ 6 := by rw [hms, List.length_map, List.length_append, List.length_singleton]; omega
                                                                      refine l_step (y_loadB agg_71 sz_71 (et (gS rfl g0) rfl) (by rw [List.size_toArray, fcv_len rfl]) (at1B k19)) ?_
                                                                      exact (by
                                                                        refine l_eff (e_callV cal_105 (aC (et (gS rfl g0) rfl) (aC (et g0 rfl) aN)) (m_enter hX.ex (by omega) hl9 hm9 (u := (cChild { s with ret := [] } f 241)) hbc hbi hU rfl (c' := c') hap9 hmk hcc hht hhf.1 hle hov9 (hX.ex.limR hph9) (hX.ex.madR hph9) (hX.ex.orgR hph9))) (fun v128 w128 h128 => ?_)
                                                                        obtain ⟨rfl, cl128, cs128, V128, y128⟩ := h128
                                                                        replace k9 := k9.ch y128.et.go.ch (by intro hm; (have e0 := hm); omega)
                                                                        replace k19 := k19.ch y128.et.go.ch (by intro hm; (have e0 := hm); omega)
                                                                        replace k23 := k23.ch y128.et.go.ch (by intro hm; (have e0 := hm); omega)
                                                                        replace k112 := k112.ch y128.et.go.ch (by intro hm; (have e0 := hm); omega)
                                                                        replace hX := hX.trans y128
                                                                        replace U := U.cc y128.et.go.ch (by intro b hb; exact .inl trivial)
                                                                        refine l_nil ?_
                                                                        refine end0 rfl ?_
                                                                        have hnf : ¬ cFail { s with ret := [] } f 241 low.length := by
                                                                          intro h9
                                                                          rcases h9 with h9 | h9
                                                                          · exact hd6 h9
                                                                          · exact hfb h9
                                                                        rw [show callY { s with ret := [] } f 241 low = entY { cS { s with ret := [] } f with frames := low ++ [cWait f 241] } (cChild { s with ret := [] } f 241) from if_neg hnf]
                                                                        rw [hs9] at hX
                                                                        rw [show ({ entY { cS { s with ret := [] } f with frames := low ++ [cWait f 241] } (cChild { s with ret := [] } f 241) with phase := 1 } : YSt) = entY { cS { s with ret := [] } f with frames := low ++ [cWait f 241] } (cChild { s with ret := [] } f 241) from ph1 hp] at hX
                                                                        refine ⟨rfl, XO.of hX ?_⟩
                                                                        rw [hms]
                                                                        show _ = ((low ++ [cWait f 241]) ++ [_]).map _
                                                                        rw [List.map_append, List.map_append, List.map_append]
                                                                        rfl))))))))))))))
                                  have V44 : Ch (fun k => k = b19) w43 w43 := Ch.refl _ _
                                  refine c_seq (fun K129 hK129 => ?_)
                                  exact (by
                                    refine c_region ?_
                                    refine l_step (y_loadB agg_65 sz_65 (et g0 rfl) rfl (at1B k23)) ?_
                                    refine l_eff (e_callV cal_78 (aC (et g0 rfl) aN) (isZero_spec _ _ (argN_lt hB _))) (fun v130 w130 h130 => ?_)
                                    obtain ⟨rfl, u130⟩ := h130
                                    replace k9 := k9.up u130
                                    replace k19 := k19.up u130
                                    replace k23 := k23.up u130
                                    replace hX := hX.up u130
                                    replace U := U.tr u130
                                    replace V44 := V44.tr u130
                                    refine l_step (y_not (et g0 rfl)) ?_
                                    refine l_nil ?_
                                    refine hK129 _ _ ?_
                                    refine fg7 0 2 3 4 5 6 102 (gS rfl (gS rfl (gS rfl (gS rfl (gS rfl (gS rfl (gS rfl (gS rfl g0)))))))) (gS rfl (gS rfl (gS rfl (gS rfl (gS rfl (gS rfl (gS rfl g0))))))) (gS rfl (gS rfl (gS rfl (gS rfl (gS rfl (gS rfl g0)))))) (gS rfl (gS rfl (gS rfl (gS rfl (gS rfl g0))))) (gS rfl (gS rfl (gS rfl (gS rfl g0)))) (gS rfl (gS rfl (gS rfl g0))) g0 (fun g => ?_)
                                    refine c_cond (et g0 rfl) (fun cB7 => ?_) (fun cB7 => ?_)
                                    · skip
                                      
                                      have hv0 : argN f.stack 2 ≠ 0 := by simpa using cB7
                                      exact (by
                                        refine c_region ?_
                                        refine l_step (y_fld fld_71_7 (et (gS rfl (gS rfl (gS rfl g0))) rfl)) ?_
                                        refine l_step (y_load1 one_26 (et g0 rfl) (at1 (k19.cell (show _ = some (Value.int .u64 ((sentN f.gas (argN f.stack 0)) : Nat)) from rfl)))) ?_
                                        refine l_step (y_add (et g0 rfl) rfl (wrapU_addN (b := 2300) uk64 ?_)) ?_
                                        omega
                                        refine l_step (y_fld fld_71_7 (et (gS rfl (gS rfl (gS rfl (gS rfl (gS rfl (gS rfl g0)))))) rfl)) ?_
                                        refine l_effN (e_store sz_26 (et g0 rfl) (cellsV (et (gS rfl g0) rfl) rfl) rfl (by first | exact one_bL _ | exact one_uL _ | (intro v hv; simp at hv; subst hv; rfl)) k19 (by (rw [List.size_toArray, fcv_len rfl]; decide))) (fun v132 w132 h132 => ?_)
                                        obtain ⟨rfl, x132⟩ := h132
                                        replace k9 := k9.ch x132.ch (by omega)
                                        replace k23 := k23.ch x132.ch (by omega)
                                        replace hX := hX.ch x132.ch (by first | omega | (intro b hb; first | (subst hb; first | exact ⟨by omega, fun hh => by have := hfz.lt hh; omega, by omega⟩ | exact ⟨by omega, by assumption, by omega⟩) | (rcases hb with hb | hb <;> (subst hb; first | exact ⟨by omega, fun hh => by have := hfz.lt hh; omega, by omega⟩ | exact ⟨by omega, by assumption, by omega⟩))))
                                        replace k19 := x132.blk
                                        replace U := U.st x132 (.inr f19)
                                        replace V44 := V44.st x132 (by omega)
                                        replace k19 := Blk.fgs (q := _) k19
                                        refine l_nil ?_
                                        refine fK6 0 2 3 4 5 6 (gS rfl (gS rfl (gS rfl (gS rfl (gS rfl (gS rfl (gS rfl (gS rfl (gS rfl (gS rfl g0)))))))))) (gS rfl (gS rfl (gS rfl (gS rfl (gS rfl (gS rfl (gS rfl (gS rfl (gS rfl g0))))))))) (gS rfl (gS rfl (gS rfl (gS rfl (gS rfl (gS rfl (gS rfl (gS rfl g0)))))))) (gS rfl (gS rfl (gS rfl (gS rfl (gS rfl (gS rfl (gS rfl g0))))))) (gS rfl (gS rfl (gS rfl (gS rfl (gS rfl (gS rfl g0)))))) (gS rfl (gS rfl (gS rfl (gS rfl (gS rfl g0))))) (fun g => ?_)
                                        have e7 : cG f 241 = (sentN f.gas (argN f.stack 0)) + 2300 := by unfold cG; rw [show cV f 241 = argN f.stack 2 from rfl, if_neg hv0]; rfl
                                        replace k19 : Blk w132 b19 (fcv (cFr 2 f.static (argN f.stack 2) (ctT f) f.self ((sentN f.gas (argN f.stack 0)) + 2300) 0 [] []) (.slice none 0 0) (.slice none 0 0) 0 0 0 (List.replicate 8 0)).toArray := k19
                                        rw [← e7] at k19
                                        exact hJ44 _ _ ⟨g, rfl, k19, V44⟩)
                                    · skip
                                      
                                      have hv0 : argN f.stack 2 = 0 := by simpa using cB7
                                      refine c_skip ?_
                                      refine fK6 0 2 3 4 5 6 (gS rfl (gS rfl (gS rfl (gS rfl (gS rfl (gS rfl g0)))))) (gS rfl (gS rfl (gS rfl (gS rfl (gS rfl g0))))) (gS rfl (gS rfl (gS rfl (gS rfl g0)))) (gS rfl (gS rfl (gS rfl g0))) (gS rfl (gS rfl g0)) (gS rfl g0) (fun g => ?_)
                                      have e7 : cG f 241 = (sentN f.gas (argN f.stack 0)) := by unfold cG; rw [show cV f 241 = argN f.stack 2 from rfl, if_pos hv0]; rfl
                                      rw [← e7] at k19
                                      exact hJ44 _ _ ⟨g, rfl, k19, V44⟩)))))))))))))))))
end Go.Proofs.YgvaawGreat
