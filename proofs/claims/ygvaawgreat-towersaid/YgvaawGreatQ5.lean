import Derived.Test.YgvaawGreatQ4
set_option maxRecDepth 100000
set_option maxHeartbeats 4000000
set_option linter.unusedSimpArgs false
set_option linter.unusedVariables false
namespace Go.Proofs.YgvaawGreat
open Go
def brnN (s : YSt) : Nat := s.limit - s.left
def useN (s : YSt) : Nat := brnN s - min s.now.refund (brnN s / 5)
def bckN (s : YSt) : Nat := (s.limit - useN s) * s.price
def feeN (s : YSt) : Nat := useN s * (s.price - s.env.baseFee)
def payA1 (s : YSt) : List YAcct := putA s.now.accts (setBal (acctAt s.now.accts s.origin) ((acctAt s.now.accts s.origin).bal + bckN s))
def payA2 (s : YSt) : List YAcct := putA (payA1 s) (setBal (acctAt (payA1 s) s.env.coinbase) ((acctAt (payA1 s) s.env.coinbase).bal + feeN s))
/-- what the paying leans on -/
structure PyH (s : YSt) (V : EV) : Prop where
  ph : s.phase = 2
  le : s.left ≤ s.limit
  lim : s.limit ≤ 1048576
  bf : s.env.baseFee ≤ s.price
  prc : s.price < W256
  mb : bckN s < W256
  mf : feeN s < W256
  s1 : (acctAt s.now.accts s.origin).bal + bckN s < W256
  s2 : (acctAt (payA1 s) s.env.coinbase).bal + feeN s < W256
  ho : hasA V s.origin
  hc : hasA V s.env.coinbase
  na : V.accts.length ≤ 2558
  nj : V.journal.length ≤ 65534
  org : s.origin < A160
  sts : s.status < 256
  ret : s.ret.length ≤ 717280
  lg : ∀ x ∈ s.now.logs, x.topics.length < 16777216 ∧ x.data.length ≤ 1099511627776
theorem use_le (s : YSt) : useN s ≤ s.limit := by unfold useN brnN; omega
/-- a receipt's cells -/
def rcC (ver sts used : Nat) (vo vl : Value) (made : Nat) : List Value := [.int .u8 (ver : Nat), .int .u8 (sts : Nat), .int .u64 (used : Nat), vo, vl] ++ bL (be 20 made)
theorem rcC_len {ver sts used : Nat} {vo vl : Value} {made : Nat} : (rcC ver sts used vo vl made).length = 25 := by
  unfold rcC
  rw [List.length_append, length_bL, length_be]
  rfl
theorem bld44_1 (sts used : Nat) (vo vl : Value) (h1 : vo.one1 = true) (h2 : vl.one1 = true) (w : World) : (Instr.build 44 ([(1, .int .u8 (sts : Nat)), (2, .int .u64 (used : Nat)), (3, vo), (4, vl)] : List (Nat × Value)).toArray).run Hvaa.prog w = .ok (.agg (rcC 0 sts used vo vl 0).toArray) w := by
  cases vo <;> first | exact absurd h1 Bool.false_ne_true | (cases vl <;> first | exact absurd h2 Bool.false_ne_true | kernel_rfl)
theorem rc_one {ver sts used : Nat} {vo vl : Value} {made : Nat} (h1 : vo.one1 = true) (h2 : vl.one1 = true) : ∀ u ∈ rcC ver sts used vo vl made, u.one1 = true := by
  intro u hu
  unfold rcC at hu
  rcases List.mem_append.1 hu with h | h
  · simp at h
    rcases h with rfl | rfl | rfl | rfl | rfl <;> first | rfl | assumption
  · exact one_bL _ u h
theorem rc_made {ver sts used : Nat} {vo vl : Value} {m m' : Nat} : spl (rcC ver sts used vo vl m).toArray 5 (bL (be 20 m')) = (rcC ver sts used vo vl m').toArray := by
  unfold rcC
  have h := spl_app (A := [.int .u8 (ver : Nat), .int .u8 (sts : Nat), .int .u64 (used : Nat), vo, vl]) (M := bL (be 20 m)) (C := []) (Q := bL (be 20 m')) (by rw [length_bL, length_bL, length_be, length_be])
  rw [List.append_nil, List.append_nil] at h
  exact h
theorem e_pay {w : World} {H : Store} {col : Nat → Nat} {bc : Nat} {cs : Array Value} {V : EV} (hX : XR w H col w H col bc cs V []) (hF : Fz w H) {s : YSt} {tg hd : Option Nat} (hL : LO H cs bc (qOf s tg hd)) (hlf : cs[1803 + 7]? = some (.int .u64 (s.left : Nat))) {sv : List AW} {og : Nat → Nat → Nat} (hva : VA V (absY s.now) sv og) (hY : PyH s V) :
    Ret 37 [.pointer (some ⟨bc, 0, none⟩)] w (fun v w' => ∃ H' oa la oc lc col' cs' V', v = .agg (rcC 0 s.status (useN s) (.slice oa s.ret.length oc) (.slice la s.now.logs.length lc) (if s.status = 0 then s.made else 0)).toArray ∧ BV H' (.slice oa s.ret.length oc) s.ret ∧ LV P_log 22 H' (.slice la s.now.logs.length lc) s.now.logs ∧ XR w H col w' H' col' bc cs' V' [] ∧ LO H' cs' bc (qOf s tg hd) ∧ VA V' (absY { s.now with accts := payA2 s }) sv og ∧ V'.accts.length ≤ V.accts.length ∧ V'.slots.length ≤ V.slots.length) := by
  have hnw := hX.vl.new
  have hfz := hX.vl.fz
  have hcC := hX.vl.colC
  have hLr : ∀ {H1 : Store} {cs1 : Array Value}, LO H1 cs1 bc (qOf s tg hd) → cs1[2404]? = some (.int .u8 (s.phase : Nat)) ∧ RowIn cs1 2400 (wL s.price) ∧ RowIn cs1 2380 (bL (be 20 s.origin)) ∧ cs1[2405]? = some (.int .u8 (s.status : Nat)) ∧ RowIn cs1 2415 (bL (be 20 s.made)) ∧ EC H1 cs1 2260 s.env ∧ ∃ a c, cs1[2259]? = some (.slice a s.ret.length c) ∧ BV H1 (.slice a s.ret.length c) s.ret := fun h => ⟨h.phs, h.prc, h.org, h.sts, h.mad, h.env, h.ret⟩
  obtain ⟨hphs, hprc, hog, hsts, hmad, henv, hret⟩ := hLr hL
  have hlim : cs[2407]? = some (.int .u64 (s.limit : Nat)) := hL.lim
  obtain ⟨eha, ehc, eCo, eNu, eRa, eCh, eBf, eHs, eHv⟩ := henv.ex
  have eo := henv.ok
  have hb1 : (absV V).bal s.origin = (acctAt s.now.accts s.origin).bal := by rw [hva.abs]; rfl
  have hrf : V.ref = s.now.refund := congrArg AW.refund hva.abs
  have hul := use_le s
  have hlu : s.limit - useN s < W256 := Nat.lt_of_le_of_lt (Nat.le_trans (Nat.sub_le _ _) hY.lim) (by decide)
  have huu : useN s < W256 := Nat.lt_of_le_of_lt (Nat.le_trans hul hY.lim) (by decide)
  have hbo0 := hY.lim
  refine enter (n := 184) Hvaa.func37 rfl rfl (Nat.le_of_ble_eq_true rfl) ?_
  have U : Ch (fun _ => True) w w := Ch.refl _ w
  have G : Go (fun _ => True) w H w H := Go.refl hF
  have hL0 : Le H H := Le.refl H
  refine c_seq (fun K1 hK1 => ?_)
  exact (by
    refine c_region ?_
    refine l_eff (e_alloc zr_44) (fun v2 w2 h2 => ?_)
    obtain ⟨b2, rfl, n2⟩ := h2
    have f2 : w.heap.size ≤ b2 := Nat.le_trans U.size n2.fresh
    have nb2 := hF.nb n2.fresh
    replace G := G.tr (Go.ofUp hF n2.up)
    replace hF := hF.up n2.up
    replace hX := hX.up n2.up
    replace U := U.tr n2.up
    have k2 := n2.blk
    obtain ⟨zs2, hz2, k2⟩ : ∃ cs : Array Value, cs.size = 25 ∧ Blk w2 b2 cs := ⟨_, rfl, k2⟩
    have nc2 : col b2 = 0 := hnw _ f2
    refine l_nil ?_
    refine hK1 _ _ ?_
    refine c_seq (fun K3 hK3 => ?_)
    refine c_seq (fun K4 hK4 => ?_)
    exact (by
      refine c_draw Up 38 [(0, true), (1, true), (2, true), (3, true), (4, true), (5, true), (6, true), (7, true), (8, true), (9, true), (10, true), (11, true), (12, true), (13, true), (14, true), (15, true), (16, true), (17, true), (18, true), (19, true), (20, true), (21, true), (22, true), (23, true), (24, true), (25, true), (26, true), (27, true), (28, true), (29, true), (30, true), (31, true), (32, true), (33, true), (34, true), (35, false), (36, false), (37, true)] (by kernel_rfl) (fun w5 hu => ⟨Up.refl _, ?_⟩)
      replace G := G.tr (Go.ofUp hF hu)
      replace hF := hF.up hu
      replace k2 := k2.up hu
      replace hX := hX.up hu
      replace U := U.tr hu
      have SU := Up.refl w5
      refine p_step (by exact rfl) (y_moveV (et (gS rfl g0) rfl)) ?_
      refine p_step (by exact rfl) (y_nil (et g0 rfl)) ?_
      refine p_step (by exact rfl) (y_fld fld_75_9 (et g0 rfl)) ?_
      refine p_step (by exact rfl) (y_load1 one_5 (et g0 rfl) (atS (hX.vl.c1 hphs rfl))) ?_
      refine p_step (by exact rfl) (y_neq (et g0 rfl) rfl) ?_
      refine p_step (by exact rfl) (y_moveV (et g0 rfl)) ?_
      refine gsplitP (i := 17) g0 (fun q6 => ?_) (fun q6 => ?_)
      · skip
        exact absurd (of_decide_eq_true q6) (by rw [hY.ph]; decide)
      · skip
        refine p_gstep (j := 5) (t := 17) (by exact rfl) (by exact rfl) (by exact rfl) (et g0 rfl) rfl (y_moveV (et (gS rfl (gS rfl (gS rfl (gS rfl (gS rfl (gS rfl (gS rfl (gS rfl g0)))))))) rfl)) ?_
        refine p_gstep (j := 5) (t := 17) (by exact rfl) (by exact rfl) (by exact rfl) (et (gS rfl g0) rfl) rfl (y_nil (et g0 rfl)) ?_
        refine p_gstep (j := 5) (t := 17) (by exact rfl) (by exact rfl) (by exact rfl) (et (gS rfl (gS rfl g0)) rfl) rfl (y_fld fld_75_0 (et g0 rfl)) ?_
        refine p_gstep (j := 5) (t := 17) (by exact rfl) (by exact rfl) (by exact rfl) (et (gS rfl (gS rfl (gS rfl g0))) rfl) rfl (y_load1 one_59 (et g0 rfl) (atS (hX.vl.c1 hL.pS rfl))) ?_
        refine p_gstep (j := 5) (t := 17) (by exact rfl) (by exact rfl) (by exact rfl) (et (gS rfl (gS rfl (gS rfl (gS rfl g0)))) rfl) rfl (y_eqlNil Hvaa.underlying59 (et g0 rfl) rfl) ?_
        refine p_step (by exact rfl) (y_pickF (et (gS rfl (gS rfl (gS rfl (gS rfl (gS rfl g0))))) rfl) (et g0 rfl)) ?_
        refine p_step (by exact rfl) (y_moveV (et g0 rfl)) ?_
        refine p_gstep (j := 12) (t := 24) (by exact rfl) (by exact rfl) (by exact rfl) (et g0 rfl) rfl (y_moveV (et (gS rfl (gS rfl (gS rfl (gS rfl (gS rfl (gS rfl (gS rfl (gS rfl (gS rfl (gS rfl (gS rfl (gS rfl (gS rfl (gS rfl (gS rfl g0))))))))))))))) rfl)) ?_
        refine p_gstep (j := 12) (t := 24) (by exact rfl) (by exact rfl) (by exact rfl) (et (gS rfl g0) rfl) rfl (y_nil (et g0 rfl)) ?_
        refine p_gstep (j := 12) (t := 24) (by exact rfl) (by exact rfl) (by exact rfl) (et (gS rfl (gS rfl g0)) rfl) rfl (y_fld fld_75_3 (et g0 rfl)) ?_
        refine p_gstep (j := 12) (t := 24) (by exact rfl) (by exact rfl) (by exact rfl) (et (gS rfl (gS rfl (gS rfl g0))) rfl) rfl (y_idxAC 0 0 Hvaa.underlying72 sz_71 (et g0 rfl) rfl rfl rfl) ?_
        refine p_gstep (j := 12) (t := 24) (by exact rfl) (by exact rfl) (by exact rfl) (et (gS rfl (gS rfl (gS rfl (gS rfl g0)))) rfl) rfl (y_fld fld_71_7 (et g0 rfl)) ?_
        refine p_gstep (j := 12) (t := 24) (by exact rfl) (by exact rfl) (by exact rfl) (et (gS rfl (gS rfl (gS rfl (gS rfl (gS rfl g0))))) rfl) rfl (y_load1 one_26 (et g0 rfl) (atS (hX.vl.c1 hlf rfl))) ?_
        refine p_gstep (j := 12) (t := 24) (by exact rfl) (by exact rfl) (by exact rfl) (et (gS rfl (gS rfl (gS rfl (gS rfl (gS rfl (gS rfl g0)))))) rfl) rfl (y_moveV (et (gS rfl (gS rfl (gS rfl (gS rfl (gS rfl (gS rfl (gS rfl (gS rfl (gS rfl (gS rfl (gS rfl (gS rfl (gS rfl (gS rfl (gS rfl (gS rfl (gS rfl (gS rfl (gS rfl (gS rfl (gS rfl g0))))))))))))))))))))) rfl)) ?_
        refine p_gstep (j := 12) (t := 24) (by exact rfl) (by exact rfl) (by exact rfl) (et (gS rfl (gS rfl (gS rfl (gS rfl (gS rfl (gS rfl (gS rfl g0))))))) rfl) rfl (y_nil (et g0 rfl)) ?_
        refine p_gstep (j := 12) (t := 24) (by exact rfl) (by exact rfl) (by exact rfl) (et (gS rfl (gS rfl (gS rfl (gS rfl (gS rfl (gS rfl (gS rfl (gS rfl g0)))))))) rfl) rfl (y_fld fld_75_12 (et g0 rfl)) ?_
        refine p_gstep (j := 12) (t := 24) (by exact rfl) (by exact rfl) (by exact rfl) (et (gS rfl (gS rfl (gS rfl (gS rfl (gS rfl (gS rfl (gS rfl (gS rfl (gS rfl g0))))))))) rfl) rfl (y_load1 one_26 (et g0 rfl) (atS (hX.vl.c1 hlim rfl))) ?_
        refine p_gstep (j := 12) (t := 24) (by exact rfl) (by exact rfl) (by exact rfl) (et (gS rfl (gS rfl (gS rfl (gS rfl (gS rfl (gS rfl (gS rfl (gS rfl (gS rfl (gS rfl g0)))))))))) rfl) rfl (y_gtr (et (gS rfl (gS rfl (gS rfl (gS rfl g0)))) rfl) (et g0 rfl)) ?_
        refine p_step (by exact rfl) (y_pickF (et (gS rfl (gS rfl (gS rfl (gS rfl (gS rfl (gS rfl (gS rfl (gS rfl (gS rfl (gS rfl (gS rfl g0))))))))))) rfl) (et g0 rfl)) ?_
        refine p_step (by exact rfl) (y_moveV (et g0 rfl)) ?_
        refine gsplitP (i := 37) g0 (fun q7 => ?_) (fun q7 => ?_)
        · skip
          exact absurd (of_decide_eq_true q7) (by have := hY.le; omega)
        · skip
          refine p_gstep (j := 25) (t := 37) (by exact rfl) (by exact rfl) (by exact rfl) (et g0 rfl) rfl (y_moveV (et (gS rfl (gS rfl (gS rfl (gS rfl (gS rfl (gS rfl (gS rfl (gS rfl (gS rfl (gS rfl (gS rfl (gS rfl (gS rfl (gS rfl (gS rfl (gS rfl (gS rfl (gS rfl (gS rfl (gS rfl (gS rfl (gS rfl (gS rfl (gS rfl (gS rfl (gS rfl (gS rfl (gS rfl (gS rfl g0))))))))))))))))))))))))))))) rfl)) ?_
          refine p_gstep (j := 25) (t := 37) (by exact rfl) (by exact rfl) (by exact rfl) (et (gS rfl g0) rfl) rfl (y_nil (et g0 rfl)) ?_
          refine p_gstep (j := 25) (t := 37) (by exact rfl) (by exact rfl) (by exact rfl) (et (gS rfl (gS rfl g0)) rfl) rfl (y_fld fld_75_8 (et g0 rfl)) ?_
          refine p_gstep (j := 25) (t := 37) (by exact rfl) (by exact rfl) (by exact rfl) (et (gS rfl (gS rfl (gS rfl g0))) rfl) rfl (y_loadR agg_65 sz_65 (et g0 rfl) rfl (atSR (hX.vl.kC.rowO hprc rfl))) ?_
          refine p_gstep (j := 25) (t := 37) (by exact rfl) (by exact rfl) (by exact rfl) (et (gS rfl (gS rfl (gS rfl (gS rfl g0)))) rfl) rfl (y_moveV (et (gS rfl (gS rfl (gS rfl (gS rfl (gS rfl (gS rfl (gS rfl (gS rfl (gS rfl (gS rfl (gS rfl (gS rfl (gS rfl (gS rfl (gS rfl (gS rfl (gS rfl (gS rfl (gS rfl (gS rfl (gS rfl (gS rfl (gS rfl (gS rfl (gS rfl (gS rfl (gS rfl (gS rfl (gS rfl (gS rfl (gS rfl (gS rfl (gS rfl g0))))))))))))))))))))))))))))))))) rfl)) ?_
          refine p_gstep (j := 25) (t := 37) (by exact rfl) (by exact rfl) (by exact rfl) (et (gS rfl (gS rfl (gS rfl (gS rfl (gS rfl g0))))) rfl) rfl (y_nil (et g0 rfl)) ?_
          refine p_gstep (j := 25) (t := 37) (by exact rfl) (by exact rfl) (by exact rfl) (et (gS rfl (gS rfl (gS rfl (gS rfl (gS rfl (gS rfl g0)))))) rfl) rfl (y_fld fld_75_6 (et g0 rfl)) ?_
          refine p_gstep (j := 25) (t := 37) (by exact rfl) (by exact rfl) (by exact rfl) (et (gS rfl (gS rfl (gS rfl (gS rfl (gS rfl (gS rfl (gS rfl g0))))))) rfl) rfl (y_fld fld_31_6 (et g0 rfl)) ?_
          refine p_gstep (j := 25) (t := 37) (by exact rfl) (by exact rfl) (by exact rfl) (et (gS rfl (gS rfl (gS rfl (gS rfl (gS rfl (gS rfl (gS rfl (gS rfl g0)))))))) rfl) rfl (y_loadR agg_28 sz_28 (et g0 rfl) (by rw [length_bL, length_be]) (atSR (hX.vl.kC.rowO eBf rfl))) ?_
          refine p_geff (j := 25) (t := 37) (by exact rfl) (by exact rfl) (by exact rfl) (et (gS rfl (gS rfl (gS rfl (gS rfl (gS rfl (gS rfl (gS rfl (gS rfl (gS rfl g0))))))))) rfl) rfl (e_callV cal_83 (aC (et g0 rfl) aN) (fromBytes_spec _ _)) (fun v8 w8 h8 => ?_)
          obtain ⟨rfl, u8⟩ := h8
          replace G := G.tr (Go.ofUp hF u8)
          replace hF := hF.up u8
          replace k2 := k2.up u8
          replace hX := hX.up u8
          replace U := U.tr u8
          refine ⟨.inr (SU.tr u8), ?_⟩
          replace SU := SU.tr u8
          refine p_geff (j := 25) (t := 37) (by exact rfl) (by exact rfl) (by exact rfl) (et (gS rfl (gS rfl (gS rfl (gS rfl (gS rfl (gS rfl (gS rfl (gS rfl (gS rfl (gS rfl g0)))))))))) rfl) rfl (e_callV cal_112 (aC (et (gS rfl (gS rfl (gS rfl (gS rfl (gS rfl (gS rfl g0)))))) rfl) (aC (et g0 rfl) aN)) (lt_spec _ _ _ hY.prc eo.baseFee)) (fun v9 w9 h9 => ?_)
          obtain ⟨rfl, u9⟩ := h9
          replace G := G.tr (Go.ofUp hF u9)
          replace hF := hF.up u9
          replace k2 := k2.up u9
          replace hX := hX.up u9
          replace U := U.tr u9
          refine ⟨.inr (SU.tr u9), ?_⟩
          replace SU := SU.tr u9
          refine p_step (by exact rfl) (y_pickF (et (gS rfl (gS rfl (gS rfl (gS rfl (gS rfl (gS rfl (gS rfl (gS rfl (gS rfl (gS rfl (gS rfl g0))))))))))) rfl) (et g0 rfl)) ?_
          refine p_nil ?_
          refine hK4 _ _ ?_
          refine fg3 0 2 49 (gS rfl (gS rfl (gS rfl (gS rfl (gS rfl (gS rfl (gS rfl (gS rfl (gS rfl (gS rfl (gS rfl (gS rfl (gS rfl (gS rfl (gS rfl (gS rfl (gS rfl (gS rfl (gS rfl (gS rfl (gS rfl (gS rfl (gS rfl (gS rfl (gS rfl (gS rfl (gS rfl (gS rfl (gS rfl (gS rfl (gS rfl (gS rfl (gS rfl (gS rfl (gS rfl (gS rfl (gS rfl (gS rfl (gS rfl (gS rfl (gS rfl g0))))))))))))))))))))))))))))))))))))))))) (gS rfl (gS rfl (gS rfl (gS rfl (gS rfl (gS rfl (gS rfl (gS rfl (gS rfl (gS rfl (gS rfl (gS rfl (gS rfl (gS rfl (gS rfl (gS rfl (gS rfl (gS rfl (gS rfl (gS rfl (gS rfl (gS rfl (gS rfl (gS rfl (gS rfl (gS rfl (gS rfl (gS rfl (gS rfl (gS rfl (gS rfl (gS rfl (gS rfl (gS rfl (gS rfl (gS rfl (gS rfl (gS rfl (gS rfl (gS rfl g0)))))))))))))))))))))))))))))))))))))))) g0 (fun g => ?_)
          refine c_false (et g0 rfl) (by (exact decide_eq_false (by have := hY.bf; omega))) ?_
          refine c_skip ?_
          refine hK3 _ _ ?_
          refine fg2 0 2 (gS rfl (gS rfl g0)) (gS rfl g0) (fun g => ?_)
          refine c_seq (fun K11 hK11 => ?_)
          refine c_seq (fun K12 hK12 => ?_)
          exact (by
            refine c_region ?_
            refine l_step (y_moveV (et (gS rfl g0) rfl)) ?_
            refine l_step (y_nil (et g0 rfl)) ?_
            refine l_step (y_fld fld_75_0 (et g0 rfl)) ?_
            refine l_step (y_load1 one_59 (et g0 rfl) (at1 (hX.vl.c1 hL.pS rfl))) ?_
            refine l_eff (e_callV cal_92 (aC (et g0 rfl) aN) (v_sizes hX.vl hX.ok)) (fun v13 w13 h13 => ?_)
            obtain ⟨rfl, u13⟩ := h13
            replace G := G.tr (Go.ofUp hF u13)
            replace hF := hF.up u13
            replace k2 := k2.up u13
            replace hX := hX.up u13
            replace U := U.tr u13
            refine l_step (y_moveV (et g0 rfl)) ?_
            refine l_step (y_ext (et g0 rfl) rfl) ?_
            refine l_step (y_ext (et (gS rfl g0) rfl) rfl) ?_
            refine l_step (y_ext (et (gS rfl (gS rfl g0)) rfl) rfl) ?_
            refine l_step (y_ext (et (gS rfl (gS rfl (gS rfl g0))) rfl) rfl) ?_
            refine l_step (y_assignV (et (gS rfl (gS rfl (gS rfl g0))) rfl)) ?_
            refine l_step (y_assignV (et (gS rfl (gS rfl (gS rfl g0))) rfl)) ?_
            refine l_step (y_assignV (et (gS rfl (gS rfl (gS rfl g0))) rfl)) ?_
            refine l_step (y_assignV (et (gS rfl (gS rfl (gS rfl g0))) rfl)) ?_
            refine l_nil ?_
            refine hK12 _ _ ?_
            refine fg4 0 2 3 5 (gS rfl (gS rfl (gS rfl (gS rfl (gS rfl (gS rfl (gS rfl (gS rfl (gS rfl (gS rfl (gS rfl (gS rfl (gS rfl (gS rfl (gS rfl g0))))))))))))))) (gS rfl (gS rfl (gS rfl (gS rfl (gS rfl (gS rfl (gS rfl (gS rfl (gS rfl (gS rfl (gS rfl (gS rfl (gS rfl (gS rfl g0)))))))))))))) (gS rfl (gS rfl (gS rfl g0))) (gS rfl g0) (fun g => ?_)
            refine c_seq (fun K14 hK14 => ?_)
            exact (by
              refine c_region ?_
              refine l_step (y_moveV (et (gS rfl g0) rfl)) ?_
              refine l_step (y_gtr (et g0 rfl) rfl) ?_
              refine l_step (y_moveV (et g0 rfl)) ?_
              refine gsplitL (i := 63) g0 (fun q15 => ?_) (fun q15 => ?_)
              · skip
                exact absurd (of_decide_eq_true q15) (by have := hY.na; omega)
              · skip
                refine l_gstep (j := 2) (t := 63) (by exact rfl) (by exact rfl) (et g0 rfl) (by decide) (y_moveV (et (gS rfl (gS rfl (gS rfl (gS rfl g0)))) rfl)) ?_
                refine l_gstep (j := 2) (t := 63) (by exact rfl) (by exact rfl) (et (gS rfl g0) rfl) (by decide) (y_gtr (et g0 rfl) rfl) ?_
                refine l_step (y_pickF (et (gS rfl (gS rfl g0)) rfl) (et g0 rfl)) ?_
                refine l_nil ?_
                refine hK14 _ _ ?_
                refine fg3 0 2 66 (gS rfl (gS rfl (gS rfl (gS rfl (gS rfl (gS rfl (gS rfl (gS rfl (gS rfl (gS rfl g0)))))))))) (gS rfl (gS rfl (gS rfl (gS rfl (gS rfl (gS rfl (gS rfl (gS rfl (gS rfl g0))))))))) g0 (fun g => ?_)
                refine c_false (et g0 rfl) (by (exact decide_eq_false (by have := hY.nj; omega))) ?_
                refine c_skip ?_
                refine hK11 _ _ ?_
                refine fg2 0 2 (gS rfl (gS rfl g0)) (gS rfl g0) (fun g => ?_)
                refine c_seq (fun K17 hK17 => ?_)
                exact (by
                  refine c_draw Up 12 [(0, true), (1, true), (2, true), (3, true), (4, true), (5, true), (6, true), (7, true), (8, true), (9, true), (10, true), (11, true)] (by kernel_rfl) (fun w18 hu => ⟨Up.refl _, ?_⟩)
                  replace G := G.tr (Go.ofUp hF hu)
                  replace hF := hF.up hu
                  replace k2 := k2.up hu
                  replace hX := hX.up hu
                  replace U := U.tr hu
                  have SU := Up.refl w18
                  refine p_step (by exact rfl) (y_moveV (et (gS rfl g0) rfl)) ?_
                  refine p_step (by exact rfl) (y_nil (et g0 rfl)) ?_
                  refine p_step (by exact rfl) (y_fld fld_75_12 (et g0 rfl)) ?_
                  refine p_step (by exact rfl) (y_load1 one_26 (et g0 rfl) (atS (hX.vl.c1 hlim rfl))) ?_
                  refine p_step (by exact rfl) (y_moveV (et (gS rfl (gS rfl (gS rfl (gS rfl (gS rfl g0))))) rfl)) ?_
                  refine p_step (by exact rfl) (y_nil (et g0 rfl)) ?_
                  refine p_step (by exact rfl) (y_fld fld_75_3 (et g0 rfl)) ?_
                  refine p_step (by exact rfl) (y_idxAC 0 0 Hvaa.underlying72 sz_71 (et g0 rfl) rfl rfl rfl) ?_
                  refine p_step (by exact rfl) (y_fld fld_71_7 (et g0 rfl)) ?_
                  refine p_step (by exact rfl) (y_load1 one_26 (et g0 rfl) (atS (hX.vl.c1 hlf rfl))) ?_
                  refine p_step (by exact rfl) (y_sub (et (gS rfl (gS rfl (gS rfl (gS rfl (gS rfl (gS rfl g0)))))) rfl) (et g0 rfl) (wrapU_subN uk64 ?_ ?_)) ?_
                  (have := hY.le; omega)
                  (have := hY.lim; omega)
                  refine p_step (by exact rfl) (y_assignV (et g0 rfl)) ?_
                  refine p_nil ?_
                  refine hK17 _ _ ?_
                  refine fg3 0 2 7 (gS rfl (gS rfl (gS rfl (gS rfl (gS rfl (gS rfl (gS rfl (gS rfl (gS rfl (gS rfl (gS rfl (gS rfl (gS rfl g0))))))))))))) (gS rfl (gS rfl (gS rfl (gS rfl (gS rfl (gS rfl (gS rfl (gS rfl (gS rfl (gS rfl (gS rfl (gS rfl g0)))))))))))) g0 (fun g => ?_)
                  refine c_seq (fun K19 hK19 => ?_)
                  exact (by
                    refine c_region ?_
                    refine l_step (y_moveV (et g0 rfl)) ?_
                    refine l_step (y_moveV (et (gS rfl (gS rfl (gS rfl g0))) rfl)) ?_
                    refine l_step (y_nil (et g0 rfl)) ?_
                    refine l_step (y_fld fld_75_0 (et g0 rfl)) ?_
                    refine l_step (y_load1 one_59 (et g0 rfl) (at1 (hX.vl.c1 hL.pS rfl))) ?_
                    refine l_eff (e_callV cal_113 (aC (et g0 rfl) aN) (hrf ▸ v_refund hX.vl)) (fun v20 w20 h20 => ?_)
                    obtain ⟨rfl, u20⟩ := h20
                    replace G := G.tr (Go.ofUp hF u20)
                    replace hF := hF.up u20
                    replace k2 := k2.up u20
                    replace hX := hX.up u20
                    replace U := U.tr u20
                    refine l_step (y_moveV (et (gS rfl (gS rfl (gS rfl (gS rfl (gS rfl (gS rfl g0)))))) rfl)) ?_
                    refine l_step (y_quo (et g0 rfl) rfl (by decide) (quoU (b := 5) uk64 ?_)) ?_
                    omega
                    refine l_step (y_minN (et (gS rfl (gS rfl g0)) rfl) (et g0 rfl)) ?_
                    refine l_step (y_sub (et (gS rfl (gS rfl (gS rfl (gS rfl (gS rfl (gS rfl (gS rfl (gS rfl g0)))))))) rfl) (et g0 rfl) (wrapU_subN uk64 ?_ ?_)) ?_
                    (have := hY.lim; omega)
                    (have := hY.lim; omega)
                    refine l_step (y_assignV (et g0 rfl)) ?_
                    refine l_nil ?_
                    refine hK19 _ _ ?_
                    refine fg3 0 2 8 (gS rfl (gS rfl (gS rfl (gS rfl (gS rfl (gS rfl (gS rfl (gS rfl (gS rfl (gS rfl (gS rfl (gS rfl (gS rfl g0))))))))))))) (gS rfl (gS rfl (gS rfl (gS rfl (gS rfl (gS rfl (gS rfl (gS rfl (gS rfl (gS rfl (gS rfl (gS rfl g0)))))))))))) g0 (fun g => ?_)
                    refine c_seq (fun K21 hK21 => ?_)
                    exact (by
                      have hnw1 := hX.vl.new
                      refine fgv3 0 2 8 (gS rfl (gS rfl g0)) (gS rfl g0) g0 (fun g z0 z2 z8 e0 e2 e8 => ?_)
                      refine c_drawJ (fun s_ w_ => ∃ (g : Nat → Value) (b23 : Nat), s_ = (upd (upd (upd (upd g 0 z0) 2 z2) 8 z8) 9 (.pointer (some ⟨b23, 0, none⟩))) ∧ Ch (fun _ => False) w20 w_ ∧ w20.heap.size ≤ b23 ∧ Blk w_ b23 ((wL (bckN s)).toArray)) Up 13 (.pure 0 (.pure 1 (.pure 2 (.pure 3 (.pure 4 (.pure 5 (.pure 6 (.pure 7 (.pure 8 (.pure 9 (.pure 10 (.two 11 (.eff 12 (.eff 13 .fin)) 12 (.eff 11 (.eff 13 .fin)))))))))))))) (by kernel_rfl) (fun w24 hu => ⟨Up.refl _, ?_⟩) ?_
                      · skip
                        subst e0 e2 e8
                        replace G := G.tr (Go.ofUp hF hu)
                        replace hF := hF.up hu
                        replace k2 := k2.up hu
                        replace hX := hX.up hu
                        replace U := U.tr hu
                        have SU := Up.refl w24
                        have V22 : Ch (fun _ => False) w20 w24 := hu
                        refine t_step (by exact rfl) (y_moveV (et (gS rfl (gS rfl g0)) rfl)) ?_
                        refine t_step (by exact rfl) (y_nil (et g0 rfl)) ?_
                        refine t_step (by exact rfl) (y_fld fld_75_12 (et g0 rfl)) ?_
                        refine t_step (by exact rfl) (y_load1 one_26 (et g0 rfl) (atS (hX.vl.c1 hlim rfl))) ?_
                        refine t_step (by exact rfl) (y_moveV (et (gS rfl (gS rfl (gS rfl (gS rfl g0)))) rfl)) ?_
                        refine t_step (by exact rfl) (y_sub (et (gS rfl g0) rfl) (et g0 rfl) (wrapU_subN uk64 ?_ ?_)) ?_
                        (have := hY.lim; omega)
                        (have := hY.lim; omega)
                        refine t_step (by exact rfl) (y_bld (bC (et g0 rfl) bN) (bld65_w _ (show s.limit - useN s < 18446744073709551616 by have := hY.lim; omega))) ?_
                        refine t_step (by exact rfl) (y_moveV (et (gS rfl (gS rfl (gS rfl (gS rfl (gS rfl (gS rfl (gS rfl (gS rfl (gS rfl g0))))))))) rfl)) ?_
                        refine t_step (by exact rfl) (y_nil (et g0 rfl)) ?_
                        refine t_step (by exact rfl) (y_fld fld_75_8 (et g0 rfl)) ?_
                        refine t_step (by exact rfl) (y_loadR agg_65 sz_65 (et g0 rfl) rfl (atSR (hX.vl.kC.rowO hprc rfl))) ?_
                        refine t_two ?_ ?_
                        · skip
                          refine t_eff (by exact rfl) (e_callV cal_95 (aC (et (gS rfl (gS rfl (gS rfl (gS rfl g0)))) rfl) (aC (et g0 rfl) aN)) (show Ret 95 [wV (s.limit - useN s), wV s.price] _ (fun v w' => v = wV (bckN s) ∧ Up _ w') from mul_ok _ _ _ hlu hY.prc hY.mb)) (fun v25 w25 h25 => ?_)
                          obtain ⟨rfl, u25⟩ := h25
                          replace G := G.tr (Go.ofUp hF u25)
                          replace hF := hF.up u25
                          replace k2 := k2.up u25
                          replace hX := hX.up u25
                          replace U := U.tr u25
                          replace V22 := V22.tr u25
                          refine ⟨.inr (SU.tr u25), ?_⟩
                          replace SU := SU.tr u25
                          refine t_one ?_
                          refine t_eff (by exact rfl) (e_alloc zr_65) (fun v26 w26 h26 => ?_)
                          obtain ⟨b26, rfl, n26⟩ := h26
                          have d2_26 : b2 < b26 := Nat.lt_of_lt_of_le k2.lt n26.fresh
                          have f26 : w.heap.size ≤ b26 := Nat.le_trans U.size n26.fresh
                          have nb26 := hF.nb n26.fresh
                          have fS26 := Nat.le_trans SU.size n26.fresh
                          have fV22_26 := Nat.le_trans V22.size n26.fresh
                          replace G := G.tr (Go.ofUp hF n26.up)
                          replace hF := hF.up n26.up
                          replace k2 := k2.up n26.up
                          replace hX := hX.up n26.up
                          replace U := U.tr n26.up
                          replace V22 := V22.tr n26.up
                          have k26 := n26.blk
                          refine ⟨.inr (SU.tr n26.up), ?_⟩
                          replace SU := SU.tr n26.up
                          have nc26 := hnw1 b26 (Nat.le_trans hu.size fS26)
                          refine t_one ?_
                          refine t_effN (by exact rfl) (e_store sz_65 (et g0 rfl) (cellsV (et (gS rfl g0) rfl) rfl) rfl (by exact one_uL _) k26 (by exact Nat.le_of_ble_eq_true rfl)) (fun v27 w27 h27 => ?_)
                          obtain ⟨rfl, x27⟩ := h27
                          replace k2 := k2.ch x27.ch (by omega)
                          replace hX := hX.ch x27.ch (by first | omega | (intro b hb; first | (subst hb; first | exact ⟨by omega, fun hh => by have := hfz.lt hh; omega, by omega⟩ | exact ⟨by omega, by assumption, by omega⟩) | (rcases hb with hb | hb <;> (subst hb; first | exact ⟨by omega, fun hh => by have := hfz.lt hh; omega, by omega⟩ | exact ⟨by omega, by assumption, by omega⟩))))
                          replace k26 := x27.blk.full rfl
                          replace G := G.wr x27 (by first | exact .inr f26 | omega | (simp; omega)) nb26
                          replace hF := G.fz
                          replace U := U.st x27 (.inr f26)
                          replace V22 := V22.st x27 (by omega)
                          refine ⟨.inl rfl, ?_⟩
                          refine tl4 0 2 8 9 (gS rfl (gS rfl (gS rfl (gS rfl (gS rfl (gS rfl (gS rfl (gS rfl (gS rfl (gS rfl (gS rfl (gS rfl (gS rfl (gS rfl (gS rfl g0))))))))))))))) (gS rfl (gS rfl (gS rfl (gS rfl (gS rfl (gS rfl (gS rfl (gS rfl (gS rfl (gS rfl (gS rfl (gS rfl (gS rfl (gS rfl g0)))))))))))))) (gS rfl (gS rfl (gS rfl (gS rfl (gS rfl (gS rfl (gS rfl (gS rfl (gS rfl (gS rfl (gS rfl (gS rfl (gS rfl g0))))))))))))) g0 (fun g => ?_)
                          exact ⟨g, _, rfl, V22, Nat.le_trans hu.size fS26, k26⟩
                        · skip
                          refine t_eff (by exact rfl) (e_alloc zr_65) (fun v28 w28 h28 => ?_)
                          obtain ⟨b28, rfl, n28⟩ := h28
                          have d2_28 : b2 < b28 := Nat.lt_of_lt_of_le k2.lt n28.fresh
                          have f28 : w.heap.size ≤ b28 := Nat.le_trans U.size n28.fresh
                          have nb28 := hF.nb n28.fresh
                          have fS28 := Nat.le_trans SU.size n28.fresh
                          have fV22_28 := Nat.le_trans V22.size n28.fresh
                          replace G := G.tr (Go.ofUp hF n28.up)
                          replace hF := hF.up n28.up
                          replace k2 := k2.up n28.up
                          replace hX := hX.up n28.up
                          replace U := U.tr n28.up
                          replace V22 := V22.tr n28.up
                          have k28 := n28.blk
                          refine ⟨.inr (SU.tr n28.up), ?_⟩
                          replace SU := SU.tr n28.up
                          have nc28 := hnw1 b28 (Nat.le_trans hu.size fS28)
                          refine t_one ?_
                          refine t_eff (by exact rfl) (e_callV cal_95 (aC (et (gS rfl (gS rfl (gS rfl (gS rfl (gS rfl g0))))) rfl) (aC (et (gS rfl g0) rfl) aN)) (show Ret 95 [wV (s.limit - useN s), wV s.price] _ (fun v w' => v = wV (bckN s) ∧ Up _ w') from mul_ok _ _ _ hlu hY.prc hY.mb)) (fun v29 w29 h29 => ?_)
                          obtain ⟨rfl, u29⟩ := h29
                          replace G := G.tr (Go.ofUp hF u29)
                          replace hF := hF.up u29
                          replace k2 := k2.up u29
                          replace k28 := k28.up u29
                          replace hX := hX.up u29
                          replace U := U.tr u29
                          replace V22 := V22.tr u29
                          refine ⟨.inr (SU.tr u29), ?_⟩
                          replace SU := SU.tr u29
                          refine t_one ?_
                          refine t_effN (by exact rfl) (e_store sz_65 (et (gS rfl g0) rfl) (cellsV (et g0 rfl) rfl) rfl (by exact one_uL _) k28 (by exact Nat.le_of_ble_eq_true rfl)) (fun v30 w30 h30 => ?_)
                          obtain ⟨rfl, x30⟩ := h30
                          replace k2 := k2.ch x30.ch (by omega)
                          replace hX := hX.ch x30.ch (by first | omega | (intro b hb; first | (subst hb; first | exact ⟨by omega, fun hh => by have := hfz.lt hh; omega, by omega⟩ | exact ⟨by omega, by assumption, by omega⟩) | (rcases hb with hb | hb <;> (subst hb; first | exact ⟨by omega, fun hh => by have := hfz.lt hh; omega, by omega⟩ | exact ⟨by omega, by assumption, by omega⟩))))
                          replace k28 := x30.blk.full rfl
                          replace G := G.wr x30 (by first | exact .inr f28 | omega | (simp; omega)) nb28
                          replace hF := G.fz
                          replace U := U.st x30 (.inr f28)
                          replace V22 := V22.st x30 (by omega)
                          refine ⟨.inl rfl, ?_⟩
                          refine tl4 0 2 8 9 (gS rfl (gS rfl (gS rfl (gS rfl (gS rfl (gS rfl (gS rfl (gS rfl (gS rfl (gS rfl (gS rfl (gS rfl (gS rfl (gS rfl (gS rfl g0))))))))))))))) (gS rfl (gS rfl (gS rfl (gS rfl (gS rfl (gS rfl (gS rfl (gS rfl (gS rfl (gS rfl (gS rfl (gS rfl (gS rfl (gS rfl g0)))))))))))))) (gS rfl (gS rfl (gS rfl (gS rfl (gS rfl (gS rfl (gS rfl (gS rfl (gS rfl (gS rfl (gS rfl (gS rfl (gS rfl g0))))))))))))) (gS rfl g0) (fun g => ?_)
                          exact ⟨g, _, rfl, V22, Nat.le_trans hu.size fS28, k28⟩
                      intro s_ w31 hJ
                      obtain ⟨g, b23, rfl, V22, fn23, kn23⟩ := hJ
                      subst e0 e2 e8
                      have d2_23 : b2 < b23 := Nat.lt_of_lt_of_le k2.lt fn23
                      have f23 : w.heap.size ≤ b23 := Nat.le_trans U.size fn23
                      have nb23 := hF.nb fn23
                      replace G := G.tr (Go.ofUp hF V22)
                      replace hF := hF.up V22
                      replace k2 := k2.up V22
                      replace hX := hX.up V22
                      replace U := U.tr V22
                      have k23 := kn23
                      have nc23 := hnw1 b23 fn23
                      refine hK21 _ _ ?_
                      refine c_seq (fun K32 hK32 => ?_)
                      exact (by
                        have hnw1 := hX.vl.new
                        refine fgv4 0 2 8 9 (gS rfl (gS rfl (gS rfl g0))) (gS rfl (gS rfl g0)) (gS rfl g0) g0 (fun g z0 z2 z8 z9 e0 e2 e8 e9 => ?_)
                        refine c_drawJ (fun s_ w_ => ∃ (g : Nat → Value) (b34 : Nat), s_ = (upd (upd (upd (upd (upd g 0 z0) 2 z2) 8 z8) 9 z9) 10 (.pointer (some ⟨b34, 0, none⟩))) ∧ Ch (fun _ => False) w31 w_ ∧ w31.heap.size ≤ b34 ∧ Blk w_ b34 ((wL (feeN s)).toArray)) Up 15 (.pure 0 (.pure 1 (.pure 2 (.pure 3 (.pure 4 (.pure 5 (.pure 6 (.pure 7 (.pure 8 (.pure 9 (.pure 10 (.two 11 (.two 12 (.two 13 (.eff 14 (.eff 15 .fin)) 14 (.eff 13 (.eff 15 .fin))) 14 (.eff 12 (.eff 13 (.eff 15 .fin)))) 14 (.eff 11 (.eff 12 (.eff 13 (.eff 15 .fin)))))))))))))))) (by kernel_rfl) (fun w35 hu => ⟨Up.refl _, ?_⟩) ?_
                        · skip
                          subst e0 e2 e8 e9
                          replace G := G.tr (Go.ofUp hF hu)
                          replace hF := hF.up hu
                          replace k2 := k2.up hu
                          replace k23 := k23.up hu
                          replace hX := hX.up hu
                          replace U := U.tr hu
                          have SU := Up.refl w35
                          have V33 : Ch (fun _ => False) w31 w35 := hu
                          refine t_step (by exact rfl) (y_moveV (et (gS rfl g0) rfl)) ?_
                          refine t_step (by exact rfl) (y_bld (bC (et g0 rfl) bN) (bld65_w _ (show useN s < 18446744073709551616 by have := hY.lim; omega))) ?_
                          refine t_step (by exact rfl) (y_moveV (et (gS rfl (gS rfl (gS rfl (gS rfl (gS rfl g0))))) rfl)) ?_
                          refine t_step (by exact rfl) (y_nil (et g0 rfl)) ?_
                          refine t_step (by exact rfl) (y_fld fld_75_8 (et g0 rfl)) ?_
                          refine t_step (by exact rfl) (y_loadR agg_65 sz_65 (et g0 rfl) rfl (atSR (hX.vl.kC.rowO hprc rfl))) ?_
                          refine t_step (by exact rfl) (y_moveV (et (gS rfl (gS rfl (gS rfl (gS rfl (gS rfl (gS rfl (gS rfl (gS rfl (gS rfl g0))))))))) rfl)) ?_
                          refine t_step (by exact rfl) (y_nil (et g0 rfl)) ?_
                          refine t_step (by exact rfl) (y_fld fld_75_6 (et g0 rfl)) ?_
                          refine t_step (by exact rfl) (y_fld fld_31_6 (et g0 rfl)) ?_
                          refine t_step (by exact rfl) (y_loadR agg_28 sz_28 (et g0 rfl) (by rw [length_bL, length_be]) (atSR (hX.vl.kC.rowO eBf rfl))) ?_
                          refine t_two ?_ ?_
                          · skip
                            refine t_eff (by exact rfl) (e_callV cal_83 (aC (et g0 rfl) aN) (fromBytes_spec _ _)) (fun v36 w36 h36 => ?_)
                            obtain ⟨rfl, u36⟩ := h36
                            replace G := G.tr (Go.ofUp hF u36)
                            replace hF := hF.up u36
                            replace k2 := k2.up u36
                            replace k23 := k23.up u36
                            replace hX := hX.up u36
                            replace U := U.tr u36
                            replace V33 := V33.tr u36
                            refine ⟨.inr (SU.tr u36), ?_⟩
                            replace SU := SU.tr u36
                            refine t_two ?_ ?_
                            · skip
                              refine t_eff (by exact rfl) (e_callV cal_98 (aC (et (gS rfl (gS rfl (gS rfl (gS rfl (gS rfl (gS rfl g0)))))) rfl) (aC (et g0 rfl) aN)) (sub_ok _ _ _ hY.prc hY.bf)) (fun v37 w37 h37 => ?_)
                              obtain ⟨rfl, u37⟩ := h37
                              replace G := G.tr (Go.ofUp hF u37)
                              replace hF := hF.up u37
                              replace k2 := k2.up u37
                              replace k23 := k23.up u37
                              replace hX := hX.up u37
                              replace U := U.tr u37
                              replace V33 := V33.tr u37
                              refine ⟨.inr (SU.tr u37), ?_⟩
                              replace SU := SU.tr u37
                              refine t_two ?_ ?_
                              · skip
                                refine t_eff (by exact rfl) (e_callV cal_95 (aC (et (gS rfl (gS rfl (gS rfl (gS rfl (gS rfl (gS rfl (gS rfl (gS rfl (gS rfl (gS rfl (gS rfl g0))))))))))) rfl) (aC (et g0 rfl) aN)) (show Ret 95 [wV (useN s), wV (s.price - s.env.baseFee)] _ (fun v w' => v = wV (feeN s) ∧ Up _ w') from mul_ok _ _ _ huu (by have := hY.prc; omega) hY.mf)) (fun v38 w38 h38 => ?_)
                                obtain ⟨rfl, u38⟩ := h38
                                replace G := G.tr (Go.ofUp hF u38)
                                replace hF := hF.up u38
                                replace k2 := k2.up u38
                                replace k23 := k23.up u38
                                replace hX := hX.up u38
                                replace U := U.tr u38
                                replace V33 := V33.tr u38
                                refine ⟨.inr (SU.tr u38), ?_⟩
                                replace SU := SU.tr u38
                                refine t_one ?_
                                refine t_eff (by exact rfl) (e_alloc zr_65) (fun v39 w39 h39 => ?_)
                                obtain ⟨b39, rfl, n39⟩ := h39
                                have d2_39 : b2 < b39 := Nat.lt_of_lt_of_le k2.lt n39.fresh
                                have d23_39 : b23 < b39 := Nat.lt_of_lt_of_le k23.lt n39.fresh
                                have f39 : w.heap.size ≤ b39 := Nat.le_trans U.size n39.fresh
                                have nb39 := hF.nb n39.fresh
                                have fS39 := Nat.le_trans SU.size n39.fresh
                                have fV33_39 := Nat.le_trans V33.size n39.fresh
                                replace G := G.tr (Go.ofUp hF n39.up)
                                replace hF := hF.up n39.up
                                replace k2 := k2.up n39.up
                                replace k23 := k23.up n39.up
                                replace hX := hX.up n39.up
                                replace U := U.tr n39.up
                                replace V33 := V33.tr n39.up
                                have k39 := n39.blk
                                refine ⟨.inr (SU.tr n39.up), ?_⟩
                                replace SU := SU.tr n39.up
                                have nc39 := hnw1 b39 (Nat.le_trans hu.size fS39)
                                refine t_one ?_
                                refine t_effN (by exact rfl) (e_store sz_65 (et g0 rfl) (cellsV (et (gS rfl g0) rfl) rfl) rfl (by exact one_uL _) k39 (by exact Nat.le_of_ble_eq_true rfl)) (fun v40 w40 h40 => ?_)
                                obtain ⟨rfl, x40⟩ := h40
                                replace k2 := k2.ch x40.ch (by omega)
                                replace k23 := k23.ch x40.ch (by omega)
                                replace hX := hX.ch x40.ch (by first | omega | (intro b hb; first | (subst hb; first | exact ⟨by omega, fun hh => by have := hfz.lt hh; omega, by omega⟩ | exact ⟨by omega, by assumption, by omega⟩) | (rcases hb with hb | hb <;> (subst hb; first | exact ⟨by omega, fun hh => by have := hfz.lt hh; omega, by omega⟩ | exact ⟨by omega, by assumption, by omega⟩))))
                                replace k39 := x40.blk.full rfl
                                replace G := G.wr x40 (by first | exact .inr f39 | omega | (simp; omega)) nb39
                                replace hF := G.fz
                                replace U := U.st x40 (.inr f39)
                                replace V33 := V33.st x40 (by omega)
                                refine ⟨.inl rfl, ?_⟩
                                refine tl5 0 2 8 9 10 (gS rfl (gS rfl (gS rfl (gS rfl (gS rfl (gS rfl (gS rfl (gS rfl (gS rfl (gS rfl (gS rfl (gS rfl (gS rfl (gS rfl (gS rfl (gS rfl (gS rfl (gS rfl g0)))))))))))))))))) (gS rfl (gS rfl (gS rfl (gS rfl (gS rfl (gS rfl (gS rfl (gS rfl (gS rfl (gS rfl (gS rfl (gS rfl (gS rfl (gS rfl (gS rfl (gS rfl (gS rfl g0))))))))))))))))) (gS rfl (gS rfl (gS rfl (gS rfl (gS rfl (gS rfl (gS rfl (gS rfl (gS rfl (gS rfl (gS rfl (gS rfl (gS rfl (gS rfl (gS rfl (gS rfl g0)))))))))))))))) (gS rfl (gS rfl (gS rfl (gS rfl (gS rfl (gS rfl (gS rfl (gS rfl (gS rfl (gS rfl (gS rfl (gS rfl (gS rfl (gS rfl (gS rfl g0))))))))))))))) g0 (fun g => ?_)
                                exact ⟨g, _, rfl, V33, Nat.le_trans hu.size fS39, k39⟩
                              · skip
                                refine t_eff (by exact rfl) (e_alloc zr_65) (fun v41 w41 h41 => ?_)
                                obtain ⟨b41, rfl, n41⟩ := h41
                                have d2_41 : b2 < b41 := Nat.lt_of_lt_of_le k2.lt n41.fresh
                                have d23_41 : b23 < b41 := Nat.lt_of_lt_of_le k23.lt n41.fresh
                                have f41 : w.heap.size ≤ b41 := Nat.le_trans U.size n41.fresh
                                have nb41 := hF.nb n41.fresh
                                have fS41 := Nat.le_trans SU.size n41.fresh
                                have fV33_41 := Nat.le_trans V33.size n41.fresh
                                replace G := G.tr (Go.ofUp hF n41.up)
                                replace hF := hF.up n41.up
                                replace k2 := k2.up n41.up
                                replace k23 := k23.up n41.up
                                replace hX := hX.up n41.up
                                replace U := U.tr n41.up
                                replace V33 := V33.tr n41.up
                                have k41 := n41.blk
                                refine ⟨.inr (SU.tr n41.up), ?_⟩
                                replace SU := SU.tr n41.up
                                have nc41 := hnw1 b41 (Nat.le_trans hu.size fS41)
                                refine t_one ?_
                                refine t_eff (by exact rfl) (e_callV cal_95 (aC (et (gS rfl (gS rfl (gS rfl (gS rfl (gS rfl (gS rfl (gS rfl (gS rfl (gS rfl (gS rfl (gS rfl (gS rfl g0)))))))))))) rfl) (aC (et (gS rfl g0) rfl) aN)) (show Ret 95 [wV (useN s), wV (s.price - s.env.baseFee)] _ (fun v w' => v = wV (feeN s) ∧ Up _ w') from mul_ok _ _ _ huu (by have := hY.prc; omega) hY.mf)) (fun v42 w42 h42 => ?_)
                                obtain ⟨rfl, u42⟩ := h42
                                replace G := G.tr (Go.ofUp hF u42)
                                replace hF := hF.up u42
                                replace k2 := k2.up u42
                                replace k23 := k23.up u42
                                replace k41 := k41.up u42
                                replace hX := hX.up u42
                                replace U := U.tr u42
                                replace V33 := V33.tr u42
                                refine ⟨.inr (SU.tr u42), ?_⟩
                                replace SU := SU.tr u42
                                refine t_one ?_
                                refine t_effN (by exact rfl) (e_store sz_65 (et (gS rfl g0) rfl) (cellsV (et g0 rfl) rfl) rfl (by exact one_uL _) k41 (by exact Nat.le_of_ble_eq_true rfl)) (fun v43 w43 h43 => ?_)
                                obtain ⟨rfl, x43⟩ := h43
                                replace k2 := k2.ch x43.ch (by omega)
                                replace k23 := k23.ch x43.ch (by omega)
                                replace hX := hX.ch x43.ch (by first | omega | (intro b hb; first | (subst hb; first | exact ⟨by omega, fun hh => by have := hfz.lt hh; omega, by omega⟩ | exact ⟨by omega, by assumption, by omega⟩) | (rcases hb with hb | hb <;> (subst hb; first | exact ⟨by omega, fun hh => by have := hfz.lt hh; omega, by omega⟩ | exact ⟨by omega, by assumption, by omega⟩))))
                                replace k41 := x43.blk.full rfl
                                replace G := G.wr x43 (by first | exact .inr f41 | omega | (simp; omega)) nb41
                                replace hF := G.fz
                                replace U := U.st x43 (.inr f41)
                                replace V33 := V33.st x43 (by omega)
                                refine ⟨.inl rfl, ?_⟩
                                refine tl5 0 2 8 9 10 (gS rfl (gS rfl (gS rfl (gS rfl (gS rfl (gS rfl (gS rfl (gS rfl (gS rfl (gS rfl (gS rfl (gS rfl (gS rfl (gS rfl (gS rfl (gS rfl (gS rfl (gS rfl g0)))))))))))))))))) (gS rfl (gS rfl (gS rfl (gS rfl (gS rfl (gS rfl (gS rfl (gS rfl (gS rfl (gS rfl (gS rfl (gS rfl (gS rfl (gS rfl (gS rfl (gS rfl (gS rfl g0))))))))))))))))) (gS rfl (gS rfl (gS rfl (gS rfl (gS rfl (gS rfl (gS rfl (gS rfl (gS rfl (gS rfl (gS rfl (gS rfl (gS rfl (gS rfl (gS rfl (gS rfl g0)))))))))))))))) (gS rfl (gS rfl (gS rfl (gS rfl (gS rfl (gS rfl (gS rfl (gS rfl (gS rfl (gS rfl (gS rfl (gS rfl (gS rfl (gS rfl (gS rfl g0))))))))))))))) (gS rfl g0) (fun g => ?_)
                                exact ⟨g, _, rfl, V33, Nat.le_trans hu.size fS41, k41⟩
                            · skip
                              refine t_eff (by exact rfl) (e_alloc zr_65) (fun v44 w44 h44 => ?_)
                              obtain ⟨b44, rfl, n44⟩ := h44
                              have d2_44 : b2 < b44 := Nat.lt_of_lt_of_le k2.lt n44.fresh
                              have d23_44 : b23 < b44 := Nat.lt_of_lt_of_le k23.lt n44.fresh
                              have f44 : w.heap.size ≤ b44 := Nat.le_trans U.size n44.fresh
                              have nb44 := hF.nb n44.fresh
                              have fS44 := Nat.le_trans SU.size n44.fresh
                              have fV33_44 := Nat.le_trans V33.size n44.fresh
                              replace G := G.tr (Go.ofUp hF n44.up)
                              replace hF := hF.up n44.up
                              replace k2 := k2.up n44.up
                              replace k23 := k23.up n44.up
                              replace hX := hX.up n44.up
                              replace U := U.tr n44.up
                              replace V33 := V33.tr n44.up
                              have k44 := n44.blk
                              refine ⟨.inr (SU.tr n44.up), ?_⟩
                              replace SU := SU.tr n44.up
                              have nc44 := hnw1 b44 (Nat.le_trans hu.size fS44)
                              refine t_one ?_
                              refine t_eff (by exact rfl) (e_callV cal_98 (aC (et (gS rfl (gS rfl (gS rfl (gS rfl (gS rfl (gS rfl (gS rfl g0))))))) rfl) (aC (et (gS rfl g0) rfl) aN)) (sub_ok _ _ _ hY.prc hY.bf)) (fun v45 w45 h45 => ?_)
                              obtain ⟨rfl, u45⟩ := h45
                              replace G := G.tr (Go.ofUp hF u45)
                              replace hF := hF.up u45
                              replace k2 := k2.up u45
                              replace k23 := k23.up u45
                              replace k44 := k44.up u45
                              replace hX := hX.up u45
                              replace U := U.tr u45
                              replace V33 := V33.tr u45
                              refine ⟨.inr (SU.tr u45), ?_⟩
                              replace SU := SU.tr u45
                              refine t_one ?_
                              refine t_eff (by exact rfl) (e_callV cal_95 (aC (et (gS rfl (gS rfl (gS rfl (gS rfl (gS rfl (gS rfl (gS rfl (gS rfl (gS rfl (gS rfl (gS rfl (gS rfl g0)))))))))))) rfl) (aC (et g0 rfl) aN)) (show Ret 95 [wV (useN s), wV (s.price - s.env.baseFee)] _ (fun v w' => v = wV (feeN s) ∧ Up _ w') from mul_ok _ _ _ huu (by have := hY.prc; omega) hY.mf)) (fun v46 w46 h46 => ?_)
                              obtain ⟨rfl, u46⟩ := h46
                              replace G := G.tr (Go.ofUp hF u46)
                              replace hF := hF.up u46
                              replace k2 := k2.up u46
                              replace k23 := k23.up u46
                              replace k44 := k44.up u46
                              replace hX := hX.up u46
                              replace U := U.tr u46
                              replace V33 := V33.tr u46
                              refine ⟨.inr (SU.tr u46), ?_⟩
                              replace SU := SU.tr u46
                              refine t_one ?_
                              refine t_effN (by exact rfl) (e_store sz_65 (et (gS rfl (gS rfl g0)) rfl) (cellsV (et g0 rfl) rfl) rfl (by exact one_uL _) k44 (by exact Nat.le_of_ble_eq_true rfl)) (fun v47 w47 h47 => ?_)
                              obtain ⟨rfl, x47⟩ := h47
                              replace k2 := k2.ch x47.ch (by omega)
                              replace k23 := k23.ch x47.ch (by omega)
                              replace hX := hX.ch x47.ch (by first | omega | (intro b hb; first | (subst hb; first | exact ⟨by omega, fun hh => by have := hfz.lt hh; omega, by omega⟩ | exact ⟨by omega, by assumption, by omega⟩) | (rcases hb with hb | hb <;> (subst hb; first | exact ⟨by omega, fun hh => by have := hfz.lt hh; omega, by omega⟩ | exact ⟨by omega, by assumption, by omega⟩))))
                              replace k44 := x47.blk.full rfl
                              replace G := G.wr x47 (by first | exact .inr f44 | omega | (simp; omega)) nb44
                              replace hF := G.fz
                              replace U := U.st x47 (.inr f44)
                              replace V33 := V33.st x47 (by omega)
                              refine ⟨.inl rfl, ?_⟩
                              refine tl5 0 2 8 9 10 (gS rfl (gS rfl (gS rfl (gS rfl (gS rfl (gS rfl (gS rfl (gS rfl (gS rfl (gS rfl (gS rfl (gS rfl (gS rfl (gS rfl (gS rfl (gS rfl (gS rfl (gS rfl g0)))))))))))))))))) (gS rfl (gS rfl (gS rfl (gS rfl (gS rfl (gS rfl (gS rfl (gS rfl (gS rfl (gS rfl (gS rfl (gS rfl (gS rfl (gS rfl (gS rfl (gS rfl (gS rfl g0))))))))))))))))) (gS rfl (gS rfl (gS rfl (gS rfl (gS rfl (gS rfl (gS rfl (gS rfl (gS rfl (gS rfl (gS rfl (gS rfl (gS rfl (gS rfl (gS rfl (gS rfl g0)))))))))))))))) (gS rfl (gS rfl (gS rfl (gS rfl (gS rfl (gS rfl (gS rfl (gS rfl (gS rfl (gS rfl (gS rfl (gS rfl (gS rfl (gS rfl (gS rfl g0))))))))))))))) (gS rfl (gS rfl g0)) (fun g => ?_)
                              exact ⟨g, _, rfl, V33, Nat.le_trans hu.size fS44, k44⟩
                          · skip
                            refine t_eff (by exact rfl) (e_alloc zr_65) (fun v48 w48 h48 => ?_)
                            obtain ⟨b48, rfl, n48⟩ := h48
                            have d2_48 : b2 < b48 := Nat.lt_of_lt_of_le k2.lt n48.fresh
                            have d23_48 : b23 < b48 := Nat.lt_of_lt_of_le k23.lt n48.fresh
                            have f48 : w.heap.size ≤ b48 := Nat.le_trans U.size n48.fresh
                            have nb48 := hF.nb n48.fresh
                            have fS48 := Nat.le_trans SU.size n48.fresh
                            have fV33_48 := Nat.le_trans V33.size n48.fresh
                            replace G := G.tr (Go.ofUp hF n48.up)
                            replace hF := hF.up n48.up
                            replace k2 := k2.up n48.up
                            replace k23 := k23.up n48.up
                            replace hX := hX.up n48.up
                            replace U := U.tr n48.up
                            replace V33 := V33.tr n48.up
                            have k48 := n48.blk
                            refine ⟨.inr (SU.tr n48.up), ?_⟩
                            replace SU := SU.tr n48.up
                            have nc48 := hnw1 b48 (Nat.le_trans hu.size fS48)
                            refine t_one ?_
                            refine t_eff (by exact rfl) (e_callV cal_83 (aC (et (gS rfl g0) rfl) aN) (fromBytes_spec _ _)) (fun v49 w49 h49 => ?_)
                            obtain ⟨rfl, u49⟩ := h49
                            replace G := G.tr (Go.ofUp hF u49)
                            replace hF := hF.up u49
                            replace k2 := k2.up u49
                            replace k23 := k23.up u49
                            replace k48 := k48.up u49
                            replace hX := hX.up u49
                            replace U := U.tr u49
                            replace V33 := V33.tr u49
                            refine ⟨.inr (SU.tr u49), ?_⟩
                            replace SU := SU.tr u49
                            refine t_one ?_
                            refine t_eff (by exact rfl) (e_callV cal_98 (aC (et (gS rfl (gS rfl (gS rfl (gS rfl (gS rfl (gS rfl (gS rfl g0))))))) rfl) (aC (et g0 rfl) aN)) (sub_ok _ _ _ hY.prc hY.bf)) (fun v50 w50 h50 => ?_)
                            obtain ⟨rfl, u50⟩ := h50
                            replace G := G.tr (Go.ofUp hF u50)
                            replace hF := hF.up u50
                            replace k2 := k2.up u50
                            replace k23 := k23.up u50
                            replace k48 := k48.up u50
                            replace hX := hX.up u50
                            replace U := U.tr u50
                            replace V33 := V33.tr u50
                            refine ⟨.inr (SU.tr u50), ?_⟩
                            replace SU := SU.tr u50
                            refine t_one ?_
                            refine t_eff (by exact rfl) (e_callV cal_95 (aC (et (gS rfl (gS rfl (gS rfl (gS rfl (gS rfl (gS rfl (gS rfl (gS rfl (gS rfl (gS rfl (gS rfl (gS rfl g0)))))))))))) rfl) (aC (et g0 rfl) aN)) (show Ret 95 [wV (useN s), wV (s.price - s.env.baseFee)] _ (fun v w' => v = wV (feeN s) ∧ Up _ w') from mul_ok _ _ _ huu (by have := hY.prc; omega) hY.mf)) (fun v51 w51 h51 => ?_)
                            obtain ⟨rfl, u51⟩ := h51
                            replace G := G.tr (Go.ofUp hF u51)
                            replace hF := hF.up u51
                            replace k2 := k2.up u51
                            replace k23 := k23.up u51
                            replace k48 := k48.up u51
                            replace hX := hX.up u51
                            replace U := U.tr u51
                            replace V33 := V33.tr u51
                            refine ⟨.inr (SU.tr u51), ?_⟩
                            replace SU := SU.tr u51
                            refine t_one ?_
                            refine t_effN (by exact rfl) (e_store sz_65 (et (gS rfl (gS rfl (gS rfl g0))) rfl) (cellsV (et g0 rfl) rfl) rfl (by exact one_uL _) k48 (by exact Nat.le_of_ble_eq_true rfl)) (fun v52 w52 h52 => ?_)
                            obtain ⟨rfl, x52⟩ := h52
                            replace k2 := k2.ch x52.ch (by omega)
                            replace k23 := k23.ch x52.ch (by omega)
                            replace hX := hX.ch x52.ch (by first | omega | (intro b hb; first | (subst hb; first | exact ⟨by omega, fun hh => by have := hfz.lt hh; omega, by omega⟩ | exact ⟨by omega, by assumption, by omega⟩) | (rcases hb with hb | hb <;> (subst hb; first | exact ⟨by omega, fun hh => by have := hfz.lt hh; omega, by omega⟩ | exact ⟨by omega, by assumption, by omega⟩))))
                            replace k48 := x52.blk.full rfl
                            replace G := G.wr x52 (by first | exact .inr f48 | omega | (simp; omega)) nb48
                            replace hF := G.fz
                            replace U := U.st x52 (.inr f48)
                            replace V33 := V33.st x52 (by omega)
                            refine ⟨.inl rfl, ?_⟩
                            refine tl5 0 2 8 9 10 (gS rfl (gS rfl (gS rfl (gS rfl (gS rfl (gS rfl (gS rfl (gS rfl (gS rfl (gS rfl (gS rfl (gS rfl (gS rfl (gS rfl (gS rfl (gS rfl (gS rfl (gS rfl g0)))))))))))))))))) (gS rfl (gS rfl (gS rfl (gS rfl (gS rfl (gS rfl (gS rfl (gS rfl (gS rfl (gS rfl (gS rfl (gS rfl (gS rfl (gS rfl (gS rfl (gS rfl (gS rfl g0))))))))))))))))) (gS rfl (gS rfl (gS rfl (gS rfl (gS rfl (gS rfl (gS rfl (gS rfl (gS rfl (gS rfl (gS rfl (gS rfl (gS rfl (gS rfl (gS rfl (gS rfl g0)))))))))))))))) (gS rfl (gS rfl (gS rfl (gS rfl (gS rfl (gS rfl (gS rfl (gS rfl (gS rfl (gS rfl (gS rfl (gS rfl (gS rfl (gS rfl (gS rfl g0))))))))))))))) (gS rfl (gS rfl (gS rfl g0))) (fun g => ?_)
                            exact ⟨g, _, rfl, V33, Nat.le_trans hu.size fS48, k48⟩
                        intro s_ w53 hJ
                        obtain ⟨g, b34, rfl, V33, fn34, kn34⟩ := hJ
                        subst e0 e2 e8 e9
                        have d2_34 : b2 < b34 := Nat.lt_of_lt_of_le k2.lt fn34
                        have d23_34 : b23 < b34 := Nat.lt_of_lt_of_le k23.lt fn34
                        have f34 : w.heap.size ≤ b34 := Nat.le_trans U.size fn34
                        have nb34 := hF.nb fn34
                        replace G := G.tr (Go.ofUp hF V33)
                        replace hF := hF.up V33
                        replace k2 := k2.up V33
                        replace k23 := k23.up V33
                        replace hX := hX.up V33
                        replace U := U.tr V33
                        have k34 := kn34
                        have nc34 := hnw1 b34 fn34
                        refine hK32 _ _ ?_
                        refine c_seq (fun K54 hK54 => ?_)
                        exact (by
                          refine c_draw Up 19 [(0, true), (1, true), (2, true), (3, true), (4, true), (5, true), (6, true), (7, true), (8, true), (9, true), (10, true), (11, true), (12, true), (13, true), (14, true), (15, true), (17, true), (16, false), (18, false), (19, false)] (by kernel_rfl) (fun w55 hu => ⟨Up.refl _, ?_⟩)
                          replace G := G.tr (Go.ofUp hF hu)
                          replace hF := hF.up hu
                          replace k2 := k2.up hu
                          replace k23 := k23.up hu
                          replace k34 := k34.up hu
                          replace hX := hX.up hu
                          replace U := U.tr hu
                          have SU := Up.refl w55
                          refine p_step (by exact rfl) (y_moveV (et (gS rfl (gS rfl (gS rfl (gS rfl g0)))) rfl)) ?_
                          refine p_step (by exact rfl) (y_nil (et g0 rfl)) ?_
                          refine p_step (by exact rfl) (y_fld fld_75_0 (et g0 rfl)) ?_
                          refine p_step (by exact rfl) (y_load1 one_59 (et g0 rfl) (atS (hX.vl.c1 hL.pS rfl))) ?_
                          refine p_step (by exact rfl) (y_moveV (et (gS rfl (gS rfl (gS rfl (gS rfl (gS rfl (gS rfl (gS rfl (gS rfl g0)))))))) rfl)) ?_
                          refine p_step (by exact rfl) (y_nil (et g0 rfl)) ?_
                          refine p_step (by exact rfl) (y_fld fld_75_7 (et g0 rfl)) ?_
                          refine p_step (by exact rfl) (y_loadR agg_25 sz_25 (et g0 rfl) (by rw [length_bL, length_be]) (atSR (hX.vl.kC.rowO hog rfl))) ?_
                          refine p_step (by exact rfl) (y_moveV (et (gS rfl (gS rfl (gS rfl (gS rfl (gS rfl (gS rfl (gS rfl (gS rfl (gS rfl (gS rfl (gS rfl (gS rfl g0)))))))))))) rfl)) ?_
                          refine p_step (by exact rfl) (y_nil (et g0 rfl)) ?_
                          refine p_step (by exact rfl) (y_fld fld_75_0 (et g0 rfl)) ?_
                          refine p_step (by exact rfl) (y_load1 one_59 (et g0 rfl) (atS (hX.vl.c1 hL.pS rfl))) ?_
                          refine p_step (by exact rfl) (y_moveV (et (gS rfl (gS rfl (gS rfl (gS rfl (gS rfl (gS rfl (gS rfl (gS rfl (gS rfl (gS rfl (gS rfl (gS rfl (gS rfl (gS rfl (gS rfl (gS rfl g0)))))))))))))))) rfl)) ?_
                          refine p_step (by exact rfl) (y_nil (et g0 rfl)) ?_
                          refine p_step (by exact rfl) (y_fld fld_75_7 (et g0 rfl)) ?_
                          refine p_step (by exact rfl) (y_loadR agg_25 sz_25 (et g0 rfl) (by rw [length_bL, length_be]) (atSR (hX.vl.kC.rowO hog rfl))) ?_
                          refine p_step (by exact rfl) (y_loadB agg_65 sz_65 (et (gS rfl (gS rfl (gS rfl (gS rfl (gS rfl (gS rfl (gS rfl (gS rfl (gS rfl (gS rfl (gS rfl (gS rfl (gS rfl (gS rfl (gS rfl (gS rfl (gS rfl g0))))))))))))))))) rfl) rfl (atSB k23)) ?_
                          refine p_eff (by exact rfl) (e_callV cal_99 (aC (et (gS rfl (gS rfl (gS rfl (gS rfl (gS rfl g0))))) rfl) (aC (et (gS rfl g0) rfl) aN)) (hb1 ▸ v_balance hX.vl hX.ok s.origin hY.org)) (fun v56 w56 h56 => ?_)
                          obtain ⟨rfl, u56⟩ := h56
                          replace G := G.tr (Go.ofUp hF u56)
                          replace hF := hF.up u56
                          replace k2 := k2.up u56
                          replace k23 := k23.up u56
                          replace k34 := k34.up u56
                          replace hX := hX.up u56
                          replace U := U.tr u56
                          refine ⟨.inr (SU.tr u56), ?_⟩
                          replace SU := SU.tr u56
                          exact (by
                            refine p_eff (by exact rfl) (e_callV cal_114 (aC (et g0 rfl) (aC (et (gS rfl g0) rfl) aN)) (add_ok _ _ _ hY.s1)) (fun v57 w57 h57 => ?_)
                            obtain ⟨rfl, u57⟩ := h57
                            replace G := G.tr (Go.ofUp hF u57)
                            replace hF := hF.up u57
                            replace k2 := k2.up u57
                            replace k23 := k23.up u57
                            replace k34 := k34.up u57
                            replace hX := hX.up u57
                            replace U := U.tr u57
                            refine ⟨.inr (SU.tr u57), ?_⟩
                            replace SU := SU.tr u57
                            refine p_eff (by exact rfl) (e_callV cal_97 (aC (et (gS rfl (gS rfl (gS rfl (gS rfl (gS rfl (gS rfl (gS rfl (gS rfl (gS rfl (gS rfl (gS rfl (gS rfl (gS rfl (gS rfl (gS rfl g0))))))))))))))) rfl) (aC (et (gS rfl (gS rfl (gS rfl (gS rfl (gS rfl (gS rfl (gS rfl (gS rfl (gS rfl (gS rfl (gS rfl g0))))))))))) rfl) (aC (et g0 rfl) aN))) (v_putBalance hX.vl hX.ok s.origin hY.org _ hY.s1 0 (.inl ⟨hY.ho, rfl⟩) (by have := hY.nj; omega))) (fun v58 w58 h58 => ?_)
                            obtain ⟨rfl, cl58, cs58, V58, t58, ok58, js58⟩ := h58
                            have nc2 := (t58.col b2 k2.lt).trans nc2
                            have nc23 := (t58.col b23 k23.lt).trans nc23
                            have nc34 := (t58.col b34 k34.lt).trans nc34
                            replace G := G.chs t58.go.ch (by intro b hb; exact .inl trivial) (by intro q hq hh; have h9 := hX.vl.kept q hh; (have e0 := hq); omega)
                            replace hF := G.fz
                            replace k2 := k2.ch t58.go.ch (by intro hm; (have e0 := hm); omega)
                            replace k23 := k23.ch t58.go.ch (by intro hm; (have e0 := hm); omega)
                            replace k34 := k34.ch t58.go.ch (by intro hm; (have e0 := hm); omega)
                            replace hX := hX.vt t58 ok58
                            replace U := U.cc t58.go.ch (by intro b hb; exact .inl trivial)
                            replace hL := hL.out t58.out (.inl (by decide))
                            have hva1 : VA V58 (absY { s.now with accts := payA1 s }) sv og := by
                              have h9 := js58.va hva
                              have e9 : absY { s.now with accts := payA1 s } = _ := ay_bal s.now s.origin ((acctAt s.now.accts s.origin).bal + bckN s)
                              rw [e9]; exact h9
                            have hb2 : (absV V58).bal s.env.coinbase = (acctAt (payA1 s) s.env.coinbase).bal := by rw [hva1.abs]; rfl
                            have hc1 := js58.ha _ hY.hc
                            have hj1 := js58.nj
                            have hn1 := js58.na
                            have hs1 := js58.ns
                            have hcC := hX.vl.colC
                            obtain ⟨hphs, hprc, hog, hsts, hmad, henv1, hret1⟩ := hLr hL
                            obtain ⟨eha2, ehc2, eCo, eNu, eRa, eCh, eBf, eHs, eHv⟩ := henv1.ex
                            refine ⟨.inl rfl, ?_⟩
                            refine p_nil ?_
                            refine hK54 _ _ ?_
                            refine fg4 0 2 8 10 (gS rfl (gS rfl (gS rfl (gS rfl (gS rfl (gS rfl (gS rfl (gS rfl (gS rfl (gS rfl (gS rfl (gS rfl (gS rfl (gS rfl (gS rfl (gS rfl (gS rfl (gS rfl (gS rfl (gS rfl (gS rfl (gS rfl (gS rfl (gS rfl g0)))))))))))))))))))))))) (gS rfl (gS rfl (gS rfl (gS rfl (gS rfl (gS rfl (gS rfl (gS rfl (gS rfl (gS rfl (gS rfl (gS rfl (gS rfl (gS rfl (gS rfl (gS rfl (gS rfl (gS rfl (gS rfl (gS rfl (gS rfl (gS rfl (gS rfl g0))))))))))))))))))))))) (gS rfl (gS rfl (gS rfl (gS rfl (gS rfl (gS rfl (gS rfl (gS rfl (gS rfl (gS rfl (gS rfl (gS rfl (gS rfl (gS rfl (gS rfl (gS rfl (gS rfl (gS rfl (gS rfl (gS rfl (gS rfl (gS rfl g0)))))))))))))))))))))) (gS rfl (gS rfl (gS rfl (gS rfl (gS rfl (gS rfl (gS rfl (gS rfl (gS rfl (gS rfl (gS rfl (gS rfl (gS rfl (gS rfl (gS rfl (gS rfl (gS rfl (gS rfl (gS rfl (gS rfl g0)))))))))))))))))))) (fun g => ?_)
                            refine c_seq (fun K59 hK59 => ?_)
                            exact (by
                              refine c_draw Up 21 [(0, true), (1, true), (2, true), (3, true), (4, true), (5, true), (6, true), (7, true), (8, true), (9, true), (10, true), (11, true), (12, true), (13, true), (14, true), (15, true), (16, true), (17, true), (19, true), (18, false), (20, false), (21, false)] (by kernel_rfl) (fun w60 hu => ⟨Up.refl _, ?_⟩)
                              replace G := G.tr (Go.ofUp hF hu)
                              replace hF := hF.up hu
                              replace k2 := k2.up hu
                              replace k23 := k23.up hu
                              replace k34 := k34.up hu
                              replace hX := hX.up hu
                              replace U := U.tr hu
                              have SU := Up.refl w60
                              refine p_step (by exact rfl) (y_moveV (et (gS rfl (gS rfl (gS rfl g0))) rfl)) ?_
                              refine p_step (by exact rfl) (y_nil (et g0 rfl)) ?_
                              refine p_step (by exact rfl) (y_fld fld_75_0 (et g0 rfl)) ?_
                              refine p_step (by exact rfl) (y_load1 one_59 (et g0 rfl) (atS (hX.vl.c1 hL.pS rfl))) ?_
                              refine p_step (by exact rfl) (y_moveV (et (gS rfl (gS rfl (gS rfl (gS rfl (gS rfl (gS rfl (gS rfl g0))))))) rfl)) ?_
                              refine p_step (by exact rfl) (y_nil (et g0 rfl)) ?_
                              refine p_step (by exact rfl) (y_fld fld_75_6 (et g0 rfl)) ?_
                              refine p_step (by exact rfl) (y_fld fld_31_0 (et g0 rfl)) ?_
                              refine p_step (by exact rfl) (y_loadR agg_25 sz_25 (et g0 rfl) (by rw [length_bL, length_be]) (atSR (hX.vl.kC.rowO eCo rfl))) ?_
                              refine p_step (by exact rfl) (y_moveV (et (gS rfl (gS rfl (gS rfl (gS rfl (gS rfl (gS rfl (gS rfl (gS rfl (gS rfl (gS rfl (gS rfl (gS rfl g0)))))))))))) rfl)) ?_
                              refine p_step (by exact rfl) (y_nil (et g0 rfl)) ?_
                              refine p_step (by exact rfl) (y_fld fld_75_0 (et g0 rfl)) ?_
                              refine p_step (by exact rfl) (y_load1 one_59 (et g0 rfl) (atS (hX.vl.c1 hL.pS rfl))) ?_
                              refine p_step (by exact rfl) (y_moveV (et (gS rfl (gS rfl (gS rfl (gS rfl (gS rfl (gS rfl (gS rfl (gS rfl (gS rfl (gS rfl (gS rfl (gS rfl (gS rfl (gS rfl (gS rfl (gS rfl g0)))))))))))))))) rfl)) ?_
                              refine p_step (by exact rfl) (y_nil (et g0 rfl)) ?_
                              refine p_step (by exact rfl) (y_fld fld_75_6 (et g0 rfl)) ?_
                              refine p_step (by exact rfl) (y_fld fld_31_0 (et g0 rfl)) ?_
                              refine p_step (by exact rfl) (y_loadR agg_25 sz_25 (et g0 rfl) (by rw [length_bL, length_be]) (atSR (hX.vl.kC.rowO eCo rfl))) ?_
                              refine p_step (by exact rfl) (y_loadB agg_65 sz_65 (et (gS rfl (gS rfl (gS rfl (gS rfl (gS rfl (gS rfl (gS rfl (gS rfl (gS rfl (gS rfl (gS rfl (gS rfl (gS rfl (gS rfl (gS rfl (gS rfl (gS rfl (gS rfl g0)))))))))))))))))) rfl) rfl (atSB k34)) ?_
                              refine p_eff (by exact rfl) (e_callV cal_99 (aC (et (gS rfl (gS rfl (gS rfl (gS rfl (gS rfl (gS rfl g0)))))) rfl) (aC (et (gS rfl g0) rfl) aN)) (hb2 ▸ v_balance hX.vl hX.ok s.env.coinbase eo.coinbase)) (fun v61 w61 h61 => ?_)
                              obtain ⟨rfl, u61⟩ := h61
                              replace G := G.tr (Go.ofUp hF u61)
                              replace hF := hF.up u61
                              replace k2 := k2.up u61
                              replace k23 := k23.up u61
                              replace k34 := k34.up u61
                              replace hX := hX.up u61
                              replace U := U.tr u61
                              refine ⟨.inr (SU.tr u61), ?_⟩
                              replace SU := SU.tr u61
                              exact (by
                                refine p_eff (by exact rfl) (e_callV cal_114 (aC (et g0 rfl) (aC (et (gS rfl g0) rfl) aN)) (add_ok _ _ _ hY.s2)) (fun v62 w62 h62 => ?_)
                                obtain ⟨rfl, u62⟩ := h62
                                replace G := G.tr (Go.ofUp hF u62)
                                replace hF := hF.up u62
                                replace k2 := k2.up u62
                                replace k23 := k23.up u62
                                replace k34 := k34.up u62
                                replace hX := hX.up u62
                                replace U := U.tr u62
                                refine ⟨.inr (SU.tr u62), ?_⟩
                                replace SU := SU.tr u62
                                refine p_eff (by exact rfl) (e_callV cal_97 (aC (et (gS rfl (gS rfl (gS rfl (gS rfl (gS rfl (gS rfl (gS rfl (gS rfl (gS rfl (gS rfl (gS rfl (gS rfl (gS rfl (gS rfl (gS rfl (gS rfl (gS rfl g0))))))))))))))))) rfl) (aC (et (gS rfl (gS rfl (gS rfl (gS rfl (gS rfl (gS rfl (gS rfl (gS rfl (gS rfl (gS rfl (gS rfl (gS rfl g0)))))))))))) rfl) (aC (et g0 rfl) aN))) (v_putBalance hX.vl hX.ok s.env.coinbase eo.coinbase _ hY.s2 0 (.inl ⟨hc1, rfl⟩) (by have := hY.nj; omega))) (fun v63 w63 h63 => ?_)
                                obtain ⟨rfl, cl63, cs63, V63, t63, ok63, js63⟩ := h63
                                have nc2 := (t63.col b2 k2.lt).trans nc2
                                have nc23 := (t63.col b23 k23.lt).trans nc23
                                have nc34 := (t63.col b34 k34.lt).trans nc34
                                replace G := G.chs t63.go.ch (by intro b hb; exact .inl trivial) (by intro q hq hh; have h9 := hX.vl.kept q hh; (have e0 := hq); omega)
                                replace hF := G.fz
                                replace k2 := k2.ch t63.go.ch (by intro hm; (have e0 := hm); omega)
                                replace k23 := k23.ch t63.go.ch (by intro hm; (have e0 := hm); omega)
                                replace k34 := k34.ch t63.go.ch (by intro hm; (have e0 := hm); omega)
                                replace hX := hX.vt t63 ok63
                                replace U := U.cc t63.go.ch (by intro b hb; exact .inl trivial)
                                replace hL := hL.out t63.out (.inl (by decide))
                                have hva2 : VA V63 (absY { s.now with accts := payA2 s }) sv og := by
                                  have h9 := js63.va hva1
                                  have e9 : absY { s.now with accts := payA2 s } = _ := ay_bal { s.now with accts := payA1 s } s.env.coinbase ((acctAt (payA1 s) s.env.coinbase).bal + feeN s)
                                  rw [e9]; exact h9
                                have hlg : V63.logs = s.now.logs := congrArg AW.logs hva2.abs
                                have hn2 := js63.na
                                have hs2 := js63.ns
                                have hcC := hX.vl.colC
                                obtain ⟨hphs, hprc, hog, hsts, hmad, henv1, ret9a, ret9c, hret1, hret2⟩ := hLr hL
                                refine ⟨.inl rfl, ?_⟩
                                refine p_nil ?_
                                refine hK59 _ _ ?_
                                refine fg3 0 2 8 (gS rfl (gS rfl (gS rfl (gS rfl (gS rfl (gS rfl (gS rfl (gS rfl (gS rfl (gS rfl (gS rfl (gS rfl (gS rfl (gS rfl (gS rfl (gS rfl (gS rfl (gS rfl (gS rfl (gS rfl (gS rfl (gS rfl (gS rfl (gS rfl (gS rfl g0))))))))))))))))))))))))) (gS rfl (gS rfl (gS rfl (gS rfl (gS rfl (gS rfl (gS rfl (gS rfl (gS rfl (gS rfl (gS rfl (gS rfl (gS rfl (gS rfl (gS rfl (gS rfl (gS rfl (gS rfl (gS rfl (gS rfl (gS rfl (gS rfl (gS rfl (gS rfl g0)))))))))))))))))))))))) (gS rfl (gS rfl (gS rfl (gS rfl (gS rfl (gS rfl (gS rfl (gS rfl (gS rfl (gS rfl (gS rfl (gS rfl (gS rfl (gS rfl (gS rfl (gS rfl (gS rfl (gS rfl (gS rfl (gS rfl (gS rfl (gS rfl (gS rfl g0))))))))))))))))))))))) (fun g => ?_)
                                refine c_seq (fun K64 hK64 => ?_)
                                exact (by
                                  have hnw1 := hX.vl.new
                                  have hXr := hX
                                  have hLr0 := Le.refl H
                                  refine fgv3 0 2 8 (gS rfl (gS rfl g0)) (gS rfl g0) g0 (fun g z0 z2 z8 e0 e2 e8 => ?_)
                                  refine c_drawJ (fun s_ w_ => ∃ (g : Nat → Value) (b66 : Nat) (oa la : Option Addr) (oc lc : Nat) (Hj65 : Store), s_ = (upd (upd (upd g 0 z0) 2 z2) 11 (.pointer (some ⟨b66, 0, none⟩))) ∧ Go No w63 H w_ Hj65 ∧ w63.heap.size ≤ b66 ∧ Blk w_ b66 ((rcC 0 s.status (useN s) (.slice oa s.ret.length oc) (.slice la s.now.logs.length lc) 0).toArray) ∧ ¬ Hj65.has b66 ∧ (BV Hj65 (.slice oa s.ret.length oc) s.ret) ∧ (LV P_log 22 Hj65 (.slice la s.now.logs.length lc) s.now.logs)) Up 17 (.pure 0 (.pure 1 (.pure 2 (.pure 3 (.pure 4 (.pure 5 (.pure 6 (.pure 7 (.pure 8 (.pure 10 (.pure 11 (.pure 12 (.pure 13 (.two 9 (.two 14 (.pure 15 (.eff 16 (.eff 17 .fin))) 16 (.eff 14 (.pure 15 (.eff 17 .fin)))) 16 (.eff 9 (.eff 14 (.pure 15 (.eff 17 .fin)))))))))))))))))) (by kernel_rfl) (fun w67 hu => ⟨Up.refl _, ?_⟩) ?_
                                  · skip
                                    subst e0 e2 e8
                                    replace G := G.tr (Go.ofUp hF hu)
                                    replace hF := hF.up hu
                                    replace k2 := k2.up hu
                                    replace k23 := k23.up hu
                                    replace k34 := k34.up hu
                                    replace hX := hX.up hu
                                    replace U := U.tr hu
                                    have SU := Up.refl w67
                                    have V65 : Go No w63 H w67 H := ⟨hu, hF, Le.refl _, fun _ h => .inl h⟩
                                    refine t_step (by exact rfl) (y_moveV (et (gS rfl (gS rfl g0)) rfl)) ?_
                                    refine t_step (by exact rfl) (y_nil (et g0 rfl)) ?_
                                    refine t_step (by exact rfl) (y_fld fld_75_10 (et g0 rfl)) ?_
                                    refine t_step (by exact rfl) (y_load1 one_5 (et g0 rfl) (atS (hX.vl.c1 hsts rfl))) ?_
                                    refine t_step (by exact rfl) (y_moveV (et (gS rfl (gS rfl (gS rfl (gS rfl g0)))) rfl)) ?_
                                    refine t_step (by exact rfl) (y_moveV (et (gS rfl (gS rfl (gS rfl (gS rfl (gS rfl (gS rfl (gS rfl g0))))))) rfl)) ?_
                                    refine t_step (by exact rfl) (y_nil (et g0 rfl)) ?_
                                    refine t_step (by exact rfl) (y_fld fld_75_5 (et g0 rfl)) ?_
                                    refine t_step (by exact rfl) (y_load1 one_38 (et g0 rfl) (atS (hX.vl.c1 hret1 rfl))) ?_
                                    refine t_step (by exact rfl) (y_moveV (et (gS rfl (gS rfl (gS rfl (gS rfl (gS rfl (gS rfl (gS rfl (gS rfl (gS rfl (gS rfl (gS rfl g0))))))))))) rfl)) ?_
                                    refine t_step (by exact rfl) (y_nil (et g0 rfl)) ?_
                                    refine t_step (by exact rfl) (y_fld fld_75_0 (et g0 rfl)) ?_
                                    refine t_step (by exact rfl) (y_load1 one_59 (et g0 rfl) (atS (hX.vl.c1 hL.pS rfl))) ?_
                                    refine t_two ?_ ?_
                                    · skip
                                      refine t_eff (by exact rfl) (e_callV cal_104 (aC (et (gS rfl (gS rfl (gS rfl (gS rfl g0)))) rfl) aN) (engine_copied _ _ _ s.ret _ _ hF ((hret2.mono hLr0).wv hF) (Nat.le_refl _) (by have := hY.ret; omega))) (fun v68 w68 h68 => ?_)
                                      obtain ⟨H68, g68, bo9⟩ := h68
                                      have hlew68 := g68.le
                                      replace nb2 := g68.nb nb2 k2.lt
                                      replace nb23 := g68.nb nb23 k23.lt
                                      replace nb34 := g68.nb nb34 k34.lt
                                      replace hL0 := hL0.trans hlew68
                                      replace k2 := k2.up g68.up
                                      replace k23 := k23.up g68.up
                                      replace k34 := k34.up g68.up
                                      replace hX := hX.up g68.up
                                      replace U := U.tr g68.up
                                      replace G := G.tr g68
                                      replace V65 := V65.tr g68
                                      replace hF := g68.fz
                                      obtain ⟨oa9, oc9, rfl⟩ := bo9.sl
                                      refine ⟨.inr (SU.tr g68.up), ?_⟩
                                      replace SU := SU.tr g68.up
                                      refine t_two ?_ ?_
                                      · skip
                                        refine t_eff (by exact rfl) (e_callV cal_115 (aC (et (gS rfl g0) rfl) aN) (hlg ▸ v_logged (hXr.gn V65).vl hX.ok hF (by rw [hlg]; exact hY.lg))) (fun v69 w69 h69 => ?_)
                                        obtain ⟨H69, g69, bl9⟩ := h69
                                        have hlew69 := g69.le
                                        replace nb2 := g69.nb nb2 k2.lt
                                        replace nb23 := g69.nb nb23 k23.lt
                                        replace nb34 := g69.nb nb34 k34.lt
                                        replace bo9 := bo9.mono hlew69
                                        replace hL0 := hL0.trans hlew69
                                        replace k2 := k2.up g69.up
                                        replace k23 := k23.up g69.up
                                        replace k34 := k34.up g69.up
                                        replace hX := hX.up g69.up
                                        replace U := U.tr g69.up
                                        replace G := G.tr g69
                                        replace V65 := V65.tr g69
                                        replace hF := g69.fz
                                        obtain ⟨la9, lc9, rfl, _⟩ := bl9.val
                                        refine ⟨.inr (SU.tr g69.up), ?_⟩
                                        replace SU := SU.tr g69.up
                                        refine t_step (by exact rfl) (y_bld (bC (et (gS rfl (gS rfl (gS rfl (gS rfl (gS rfl (gS rfl (gS rfl (gS rfl (gS rfl (gS rfl (gS rfl g0))))))))))) rfl) (bC (et (gS rfl (gS rfl (gS rfl (gS rfl (gS rfl (gS rfl (gS rfl (gS rfl (gS rfl (gS rfl g0)))))))))) rfl) (bC (et (gS rfl g0) rfl) (bC (et g0 rfl) bN)))) (bld44_1 s.status (useN s) _ _ rfl rfl)) ?_
                                        refine t_one ?_
                                        refine t_eff (by exact rfl) (e_alloc zr_44) (fun v70 w70 h70 => ?_)
                                        obtain ⟨b70, rfl, n70⟩ := h70
                                        have d2_70 : b2 < b70 := Nat.lt_of_lt_of_le k2.lt n70.fresh
                                        have d23_70 : b23 < b70 := Nat.lt_of_lt_of_le k23.lt n70.fresh
                                        have d34_70 : b34 < b70 := Nat.lt_of_lt_of_le k34.lt n70.fresh
                                        have f70 : w.heap.size ≤ b70 := Nat.le_trans U.size n70.fresh
                                        have nb70 := hF.nb n70.fresh
                                        have fS70 := Nat.le_trans SU.size n70.fresh
                                        have fV65_70 := Nat.le_trans V65.ch.size n70.fresh
                                        replace G := G.tr (Go.ofUp hF n70.up)
                                        replace V65 := V65.tr (Go.ofUp hF n70.up)
                                        replace hF := hF.up n70.up
                                        replace k2 := k2.up n70.up
                                        replace k23 := k23.up n70.up
                                        replace k34 := k34.up n70.up
                                        replace hX := hX.up n70.up
                                        replace U := U.tr n70.up
                                        have k70 := n70.blk
                                        refine ⟨.inr (SU.tr n70.up), ?_⟩
                                        replace SU := SU.tr n70.up
                                        have nc70 := hnw1 b70 (Nat.le_trans hu.size fS70)
                                        refine t_one ?_
                                        refine t_effN (by exact rfl) (e_store sz_44 (et g0 rfl) (cellsV (et (gS rfl g0) rfl) rfl) rcC_len (by exact rc_one rfl rfl) k70 (by exact Nat.le_of_ble_eq_true rfl)) (fun v71 w71 h71 => ?_)
                                        obtain ⟨rfl, x71⟩ := h71
                                        replace k2 := k2.ch x71.ch (by omega)
                                        replace k23 := k23.ch x71.ch (by omega)
                                        replace k34 := k34.ch x71.ch (by omega)
                                        replace hX := hX.ch x71.ch (by first | omega | (intro b hb; first | (subst hb; first | exact ⟨by omega, fun hh => by have := hfz.lt hh; omega, by omega⟩ | exact ⟨by omega, by assumption, by omega⟩) | (rcases hb with hb | hb <;> (subst hb; first | exact ⟨by omega, fun hh => by have := hfz.lt hh; omega, by omega⟩ | exact ⟨by omega, by assumption, by omega⟩))))
                                        replace k70 := x71.blk.full (by rw [rcC_len]; rfl)
                                        replace G := G.wr x71 (by first | exact .inr f70 | omega | (simp; omega)) nb70
                                        replace V65 := V65.wr x71 (by first | exact .inr f70 | omega | (simp; omega)) nb70
                                        replace hF := G.fz
                                        replace U := U.st x71 (.inr f70)
                                        refine ⟨.inl rfl, ?_⟩
                                        refine tl3 0 2 11 (gS rfl (gS rfl (gS rfl (gS rfl (gS rfl (gS rfl (gS rfl (gS rfl (gS rfl (gS rfl (gS rfl (gS rfl (gS rfl (gS rfl (gS rfl (gS rfl (gS rfl (gS rfl (gS rfl g0))))))))))))))))))) (gS rfl (gS rfl (gS rfl (gS rfl (gS rfl (gS rfl (gS rfl (gS rfl (gS rfl (gS rfl (gS rfl (gS rfl (gS rfl (gS rfl (gS rfl (gS rfl (gS rfl (gS rfl g0)))))))))))))))))) g0 (fun g => ?_)
                                        exact ⟨g, _, _, _, _, _, _, rfl, V65, Nat.le_trans hu.size fS70, k70, nb70, bo9, bl9⟩
                                      · skip
                                        refine t_eff (by exact rfl) (e_alloc zr_44) (fun v72 w72 h72 => ?_)
                                        obtain ⟨b72, rfl, n72⟩ := h72
                                        have d2_72 : b2 < b72 := Nat.lt_of_lt_of_le k2.lt n72.fresh
                                        have d23_72 : b23 < b72 := Nat.lt_of_lt_of_le k23.lt n72.fresh
                                        have d34_72 : b34 < b72 := Nat.lt_of_lt_of_le k34.lt n72.fresh
                                        have f72 : w.heap.size ≤ b72 := Nat.le_trans U.size n72.fresh
                                        have nb72 := hF.nb n72.fresh
                                        have fS72 := Nat.le_trans SU.size n72.fresh
                                        have fV65_72 := Nat.le_trans V65.ch.size n72.fresh
                                        replace G := G.tr (Go.ofUp hF n72.up)
                                        replace V65 := V65.tr (Go.ofUp hF n72.up)
                                        replace hF := hF.up n72.up
                                        replace k2 := k2.up n72.up
                                        replace k23 := k23.up n72.up
                                        replace k34 := k34.up n72.up
                                        replace hX := hX.up n72.up
                                        replace U := U.tr n72.up
                                        have k72 := n72.blk
                                        refine ⟨.inr (SU.tr n72.up), ?_⟩
                                        replace SU := SU.tr n72.up
                                        have nc72 := hnw1 b72 (Nat.le_trans hu.size fS72)
                                        refine t_one ?_
                                        refine t_eff (by exact rfl) (e_callV cal_115 (aC (et (gS rfl (gS rfl g0)) rfl) aN) (hlg ▸ v_logged (hXr.gn V65).vl hX.ok hF (by rw [hlg]; exact hY.lg))) (fun v73 w73 h73 => ?_)
                                        obtain ⟨H73, g73, bl9⟩ := h73
                                        have hlew73 := g73.le
                                        replace nb2 := g73.nb nb2 k2.lt
                                        replace nb23 := g73.nb nb23 k23.lt
                                        replace nb34 := g73.nb nb34 k34.lt
                                        replace nb72 := g73.nb nb72 k72.lt
                                        replace bo9 := bo9.mono hlew73
                                        replace hL0 := hL0.trans hlew73
                                        replace k2 := k2.up g73.up
                                        replace k23 := k23.up g73.up
                                        replace k34 := k34.up g73.up
                                        replace k72 := k72.up g73.up
                                        replace hX := hX.up g73.up
                                        replace U := U.tr g73.up
                                        replace G := G.tr g73
                                        replace V65 := V65.tr g73
                                        replace hF := g73.fz
                                        obtain ⟨la9, lc9, rfl, _⟩ := bl9.val
                                        refine ⟨.inr (SU.tr g73.up), ?_⟩
                                        replace SU := SU.tr g73.up
                                        refine t_step (by exact rfl) (y_bld (bC (et (gS rfl (gS rfl (gS rfl (gS rfl (gS rfl (gS rfl (gS rfl (gS rfl (gS rfl (gS rfl (gS rfl (gS rfl g0)))))))))))) rfl) (bC (et (gS rfl (gS rfl (gS rfl (gS rfl (gS rfl (gS rfl (gS rfl (gS rfl (gS rfl (gS rfl (gS rfl g0))))))))))) rfl) (bC (et (gS rfl (gS rfl g0)) rfl) (bC (et g0 rfl) bN)))) (bld44_1 s.status (useN s) _ _ rfl rfl)) ?_
                                        refine t_one ?_
                                        refine t_effN (by exact rfl) (e_store sz_44 (et (gS rfl (gS rfl g0)) rfl) (cellsV (et g0 rfl) rfl) rcC_len (by exact rc_one rfl rfl) k72 (by exact Nat.le_of_ble_eq_true rfl)) (fun v74 w74 h74 => ?_)
                                        obtain ⟨rfl, x74⟩ := h74
                                        replace k2 := k2.ch x74.ch (by omega)
                                        replace k23 := k23.ch x74.ch (by omega)
                                        replace k34 := k34.ch x74.ch (by omega)
                                        replace hX := hX.ch x74.ch (by first | omega | (intro b hb; first | (subst hb; first | exact ⟨by omega, fun hh => by have := hfz.lt hh; omega, by omega⟩ | exact ⟨by omega, by assumption, by omega⟩) | (rcases hb with hb | hb <;> (subst hb; first | exact ⟨by omega, fun hh => by have := hfz.lt hh; omega, by omega⟩ | exact ⟨by omega, by assumption, by omega⟩))))
                                        replace k72 := x74.blk.full (by rw [rcC_len]; rfl)
                                        replace G := G.wr x74 (by first | exact .inr f72 | omega | (simp; omega)) nb72
                                        replace V65 := V65.wr x74 (by first | exact .inr f72 | omega | (simp; omega)) nb72
                                        replace hF := G.fz
                                        replace U := U.st x74 (.inr f72)
                                        refine ⟨.inl rfl, ?_⟩
                                        refine tl3 0 2 11 (gS rfl (gS rfl (gS rfl (gS rfl (gS rfl (gS rfl (gS rfl (gS rfl (gS rfl (gS rfl (gS rfl (gS rfl (gS rfl (gS rfl (gS rfl (gS rfl (gS rfl (gS rfl (gS rfl g0))))))))))))))))))) (gS rfl (gS rfl (gS rfl (gS rfl (gS rfl (gS rfl (gS rfl (gS rfl (gS rfl (gS rfl (gS rfl (gS rfl (gS rfl (gS rfl (gS rfl (gS rfl (gS rfl (gS rfl g0)))))))))))))))))) (gS rfl (gS rfl g0)) (fun g => ?_)
                                        exact ⟨g, _, _, _, _, _, _, rfl, V65, Nat.le_trans hu.size fS72, k72, nb72, bo9, bl9⟩
                                    · skip
                                      refine t_eff (by exact rfl) (e_alloc zr_44) (fun v75 w75 h75 => ?_)
                                      obtain ⟨b75, rfl, n75⟩ := h75
                                      have d2_75 : b2 < b75 := Nat.lt_of_lt_of_le k2.lt n75.fresh
                                      have d23_75 : b23 < b75 := Nat.lt_of_lt_of_le k23.lt n75.fresh
                                      have d34_75 : b34 < b75 := Nat.lt_of_lt_of_le k34.lt n75.fresh
                                      have f75 : w.heap.size ≤ b75 := Nat.le_trans U.size n75.fresh
                                      have nb75 := hF.nb n75.fresh
                                      have fS75 := Nat.le_trans SU.size n75.fresh
                                      have fV65_75 := Nat.le_trans V65.ch.size n75.fresh
                                      replace G := G.tr (Go.ofUp hF n75.up)
                                      replace V65 := V65.tr (Go.ofUp hF n75.up)
                                      replace hF := hF.up n75.up
                                      replace k2 := k2.up n75.up
                                      replace k23 := k23.up n75.up
                                      replace k34 := k34.up n75.up
                                      replace hX := hX.up n75.up
                                      replace U := U.tr n75.up
                                      have k75 := n75.blk
                                      refine ⟨.inr (SU.tr n75.up), ?_⟩
                                      replace SU := SU.tr n75.up
                                      have nc75 := hnw1 b75 (Nat.le_trans hu.size fS75)
                                      refine t_one ?_
                                      refine t_eff (by exact rfl) (e_callV cal_104 (aC (et (gS rfl (gS rfl (gS rfl (gS rfl (gS rfl g0))))) rfl) aN) (engine_copied _ _ _ s.ret _ _ hF ((hret2.mono hLr0).wv hF) (Nat.le_refl _) (by have := hY.ret; omega))) (fun v76 w76 h76 => ?_)
                                      obtain ⟨H76, g76, bo9⟩ := h76
                                      have hlew76 := g76.le
                                      replace nb2 := g76.nb nb2 k2.lt
                                      replace nb23 := g76.nb nb23 k23.lt
                                      replace nb34 := g76.nb nb34 k34.lt
                                      replace nb75 := g76.nb nb75 k75.lt
                                      replace hL0 := hL0.trans hlew76
                                      replace k2 := k2.up g76.up
                                      replace k23 := k23.up g76.up
                                      replace k34 := k34.up g76.up
                                      replace k75 := k75.up g76.up
                                      replace hX := hX.up g76.up
                                      replace U := U.tr g76.up
                                      replace G := G.tr g76
                                      replace V65 := V65.tr g76
                                      replace hF := g76.fz
                                      obtain ⟨oa9, oc9, rfl⟩ := bo9.sl
                                      refine ⟨.inr (SU.tr g76.up), ?_⟩
                                      replace SU := SU.tr g76.up
                                      refine t_one ?_
                                      refine t_eff (by exact rfl) (e_callV cal_115 (aC (et (gS rfl (gS rfl g0)) rfl) aN) (hlg ▸ v_logged (hXr.gn V65).vl hX.ok hF (by rw [hlg]; exact hY.lg))) (fun v77 w77 h77 => ?_)
                                      obtain ⟨H77, g77, bl9⟩ := h77
                                      have hlew77 := g77.le
                                      replace nb2 := g77.nb nb2 k2.lt
                                      replace nb23 := g77.nb nb23 k23.lt
                                      replace nb34 := g77.nb nb34 k34.lt
                                      replace nb75 := g77.nb nb75 k75.lt
                                      replace bo9 := bo9.mono hlew77
                                      replace hL0 := hL0.trans hlew77
                                      replace k2 := k2.up g77.up
                                      replace k23 := k23.up g77.up
                                      replace k34 := k34.up g77.up
                                      replace k75 := k75.up g77.up
                                      replace hX := hX.up g77.up
                                      replace U := U.tr g77.up
                                      replace G := G.tr g77
                                      replace V65 := V65.tr g77
                                      replace hF := g77.fz
                                      obtain ⟨la9, lc9, rfl, _⟩ := bl9.val
                                      refine ⟨.inr (SU.tr g77.up), ?_⟩
                                      replace SU := SU.tr g77.up
                                      refine t_step (by exact rfl) (y_bld (bC (et (gS rfl (gS rfl (gS rfl (gS rfl (gS rfl (gS rfl (gS rfl (gS rfl (gS rfl (gS rfl (gS rfl (gS rfl g0)))))))))))) rfl) (bC (et (gS rfl (gS rfl (gS rfl (gS rfl (gS rfl (gS rfl (gS rfl (gS rfl (gS rfl (gS rfl (gS rfl g0))))))))))) rfl) (bC (et (gS rfl g0) rfl) (bC (et g0 rfl) bN)))) (bld44_1 s.status (useN s) _ _ rfl rfl)) ?_
                                      refine t_one ?_
                                      refine t_effN (by exact rfl) (e_store sz_44 (et (gS rfl (gS rfl (gS rfl g0))) rfl) (cellsV (et g0 rfl) rfl) rcC_len (by exact rc_one rfl rfl) k75 (by exact Nat.le_of_ble_eq_true rfl)) (fun v78 w78 h78 => ?_)
                                      obtain ⟨rfl, x78⟩ := h78
                                      replace k2 := k2.ch x78.ch (by omega)
                                      replace k23 := k23.ch x78.ch (by omega)
                                      replace k34 := k34.ch x78.ch (by omega)
                                      replace hX := hX.ch x78.ch (by first | omega | (intro b hb; first | (subst hb; first | exact ⟨by omega, fun hh => by have := hfz.lt hh; omega, by omega⟩ | exact ⟨by omega, by assumption, by omega⟩) | (rcases hb with hb | hb <;> (subst hb; first | exact ⟨by omega, fun hh => by have := hfz.lt hh; omega, by omega⟩ | exact ⟨by omega, by assumption, by omega⟩))))
                                      replace k75 := x78.blk.full (by rw [rcC_len]; rfl)
                                      replace G := G.wr x78 (by first | exact .inr f75 | omega | (simp; omega)) nb75
                                      replace V65 := V65.wr x78 (by first | exact .inr f75 | omega | (simp; omega)) nb75
                                      replace hF := G.fz
                                      replace U := U.st x78 (.inr f75)
                                      refine ⟨.inl rfl, ?_⟩
                                      refine tl3 0 2 11 (gS rfl (gS rfl (gS rfl (gS rfl (gS rfl (gS rfl (gS rfl (gS rfl (gS rfl (gS rfl (gS rfl (gS rfl (gS rfl (gS rfl (gS rfl (gS rfl (gS rfl (gS rfl (gS rfl g0))))))))))))))))))) (gS rfl (gS rfl (gS rfl (gS rfl (gS rfl (gS rfl (gS rfl (gS rfl (gS rfl (gS rfl (gS rfl (gS rfl (gS rfl (gS rfl (gS rfl (gS rfl (gS rfl (gS rfl g0)))))))))))))))))) (gS rfl (gS rfl (gS rfl g0))) (fun g => ?_)
                                      exact ⟨g, _, _, _, _, _, _, rfl, V65, Nat.le_trans hu.size fS75, k75, nb75, bo9, bl9⟩
                                  intro s_ w79 hJ
                                  obtain ⟨g, b66, oa, la, oc, lc, Hj65, rfl, V65, fn66, kn66, nb66, hbo, hbl⟩ := hJ
                                  subst e0 e2 e8
                                  have d2_66 : b2 < b66 := Nat.lt_of_lt_of_le k2.lt fn66
                                  have d23_66 : b23 < b66 := Nat.lt_of_lt_of_le k23.lt fn66
                                  have d34_66 : b34 < b66 := Nat.lt_of_lt_of_le k34.lt fn66
                                  have f66 : w.heap.size ≤ b66 := Nat.le_trans U.size fn66
                                  have hlew79 := V65.le
                                  replace nb2 := V65.nb nb2 k2.lt
                                  replace nb23 := V65.nb nb23 k23.lt
                                  replace nb34 := V65.nb nb34 k34.lt
                                  replace hL0 := hL0.trans hlew79
                                  replace k2 := k2.up V65.up
                                  replace k23 := k23.up V65.up
                                  replace k34 := k34.up V65.up
                                  replace hX := hX.up V65.up
                                  replace U := U.tr V65.up
                                  replace G := G.tr V65
                                  replace hF := V65.fz
                                  have k66 := kn66
                                  have nc66 := hnw1 b66 fn66
                                  replace hX := hXr.gn V65
                                  refine hK64 _ _ ?_
                                  refine c_seq (fun K80 hK80 => ?_)
                                  refine c_seq (fun K81 hK81 => ?_)
                                  exact (by
                                    refine c_region ?_
                                    refine l_step (y_moveV (et (gS rfl (gS rfl g0)) rfl)) ?_
                                    refine l_step (y_nil (et g0 rfl)) ?_
                                    refine l_step (y_fld fld_75_10 (et g0 rfl)) ?_
                                    refine l_step (y_load1 one_5 (et g0 rfl) (at1 (hX.vl.c1 hsts rfl))) ?_
                                    refine l_step (y_eql (et g0 rfl) rfl) ?_
                                    refine l_nil ?_
                                    refine hK81 _ _ ?_
                                    refine fg4 0 2 11 177 (gS rfl (gS rfl (gS rfl (gS rfl (gS rfl (gS rfl (gS rfl g0))))))) (gS rfl (gS rfl (gS rfl (gS rfl (gS rfl (gS rfl g0)))))) (gS rfl (gS rfl (gS rfl (gS rfl (gS rfl g0))))) g0 (fun g => ?_)
                                    refine c_cond (et g0 rfl) (fun cB3 => ?_) (fun cB3 => ?_)
                                    · skip
                                      
                                      have hz0 : s.status = 0 := by have := of_decide_eq_true cB3; omega
                                      exact (by
                                        refine c_region ?_
                                        refine l_step (y_moveV (et (gS rfl (gS rfl (gS rfl g0))) rfl)) ?_
                                        refine l_step (y_nil (et g0 rfl)) ?_
                                        refine l_step (y_fld fld_75_17 (et g0 rfl)) ?_
                                        refine l_step (y_loadR agg_25 sz_25 (et g0 rfl) (by rw [length_bL, length_be]) (at1R (hX.vl.kC.rowO hmad rfl))) ?_
                                        refine l_step (y_fld fld_44_5 (et (gS rfl (gS rfl (gS rfl (gS rfl (gS rfl g0))))) rfl)) ?_
                                        refine l_effN (e_store sz_25 (et g0 rfl) (cellsV (et (gS rfl g0) rfl) rfl) (by rw [length_bL, length_be]) (by exact one_bL _) k66 (by (rw [List.size_toArray, rcC_len]; decide))) (fun v83 w83 h83 => ?_)
                                        obtain ⟨rfl, x83⟩ := h83
                                        replace k2 := k2.ch x83.ch (by omega)
                                        replace k23 := k23.ch x83.ch (by omega)
                                        replace k34 := k34.ch x83.ch (by omega)
                                        replace hX := hX.ch x83.ch (by first | omega | (intro b hb; first | (subst hb; first | exact ⟨by omega, fun hh => by have := hfz.lt hh; omega, by omega⟩ | exact ⟨by omega, by assumption, by omega⟩) | (rcases hb with hb | hb <;> (subst hb; first | exact ⟨by omega, fun hh => by have := hfz.lt hh; omega, by omega⟩ | exact ⟨by omega, by assumption, by omega⟩))))
                                        replace k66 := x83.blk
                                        replace G := G.wr x83 (by first | exact .inr f66 | omega | (simp; omega)) nb66
                                        replace hF := G.fz
                                        replace U := U.st x83 (.inr f66)
                                        rw [rc_made] at k66
                                        refine l_nil ?_
                                        refine hK80 _ _ ?_
                                        refine fg2 2 11 (gS rfl (gS rfl (gS rfl (gS rfl (gS rfl (gS rfl (gS rfl g0))))))) (gS rfl (gS rfl (gS rfl (gS rfl (gS rfl (gS rfl g0)))))) (fun g => ?_)
                                        refine c_seq (fun K84 hK84 => ?_)
                                        exact (by
                                          refine c_region ?_
                                          refine l_step (y_loadB agg_44 sz_44 (et g0 rfl) (by rw [List.size_toArray, rcC_len]) (at1B k66)) ?_
                                          refine l_effN (e_store sz_44 (et (gS rfl (gS rfl g0)) rfl) (cellsV (et g0 rfl) rfl) rcC_len (by exact rc_one rfl rfl) k2 (by (rw [hz2]; exact Nat.le_refl _))) (fun v85 w85 h85 => ?_)
                                          obtain ⟨rfl, x85⟩ := h85
                                          replace k23 := k23.ch x85.ch (by omega)
                                          replace k34 := k34.ch x85.ch (by omega)
                                          replace k66 := k66.ch x85.ch (by omega)
                                          replace hX := hX.ch x85.ch (by first | omega | (intro b hb; first | (subst hb; first | exact ⟨by omega, fun hh => by have := hfz.lt hh; omega, by omega⟩ | exact ⟨by omega, by assumption, by omega⟩) | (rcases hb with hb | hb <;> (subst hb; first | exact ⟨by omega, fun hh => by have := hfz.lt hh; omega, by omega⟩ | exact ⟨by omega, by assumption, by omega⟩))))
                                          replace k2 := x85.blk.full (by rw [rcC_len, hz2])
                                          replace G := G.wr x85 (by first | exact .inr f2 | omega | (simp; omega)) nb2
                                          replace hF := G.fz
                                          replace U := U.st x85 (.inr f2)
                                          refine l_nil ?_
                                          refine hK84 _ _ ?_
                                          refine fg1 2 (gS rfl (gS rfl g0)) (fun g => ?_)
                                          refine c_ret ?_
                                          repeat with_reducible refine then_ret ?_
                                          refine ret1 rfl (res_blk agg_44 sz_44 (et g0 rfl) (by rw [List.size_toArray, rcC_len]) k2) ?_
                                          exact ⟨_, oa, la, oc, lc, _, _, _, by rw [if_pos hz0], hbo, hbl, hX, (hL.mono hLr0).mono (by exact hX.et.go.le), hva2, by omega, by omega⟩))
                                    · skip
                                      
                                      have hz0 : ¬ s.status = 0 := by have := of_decide_eq_false cB3; omega
                                      refine c_skip ?_
                                      refine hK80 _ _ ?_
                                      refine fg2 2 11 (gS rfl (gS rfl g0)) (gS rfl g0) (fun g => ?_)
                                      refine c_seq (fun K86 hK86 => ?_)
                                      exact (by
                                        refine c_region ?_
                                        refine l_step (y_loadB agg_44 sz_44 (et g0 rfl) (by rw [List.size_toArray, rcC_len]) (at1B k66)) ?_
                                        refine l_effN (e_store sz_44 (et (gS rfl (gS rfl g0)) rfl) (cellsV (et g0 rfl) rfl) rcC_len (by exact rc_one rfl rfl) k2 (by (rw [hz2]; exact Nat.le_refl _))) (fun v87 w87 h87 => ?_)
                                        obtain ⟨rfl, x87⟩ := h87
                                        replace k23 := k23.ch x87.ch (by omega)
                                        replace k34 := k34.ch x87.ch (by omega)
                                        replace k66 := k66.ch x87.ch (by omega)
                                        replace hX := hX.ch x87.ch (by first | omega | (intro b hb; first | (subst hb; first | exact ⟨by omega, fun hh => by have := hfz.lt hh; omega, by omega⟩ | exact ⟨by omega, by assumption, by omega⟩) | (rcases hb with hb | hb <;> (subst hb; first | exact ⟨by omega, fun hh => by have := hfz.lt hh; omega, by omega⟩ | exact ⟨by omega, by assumption, by omega⟩))))
                                        replace k2 := x87.blk.full (by rw [rcC_len, hz2])
                                        replace G := G.wr x87 (by first | exact .inr f2 | omega | (simp; omega)) nb2
                                        replace hF := G.fz
                                        replace U := U.st x87 (.inr f2)
                                        refine l_nil ?_
                                        refine hK86 _ _ ?_
                                        refine fg1 2 (gS rfl (gS rfl g0)) (fun g => ?_)
                                        refine c_ret ?_
                                        repeat with_reducible refine then_ret ?_
                                        refine ret1 rfl (res_blk agg_44 sz_44 (et g0 rfl) (by rw [List.size_toArray, rcC_len]) k2) ?_
                                        exact ⟨_, oa, la, oc, lc, _, _, _, by rw [if_neg hz0], hbo, hbl, hX, (hL.mono hLr0).mono (by exact hX.et.go.le), hva2, by omega, by omega⟩)))))))))))))))
end Go.Proofs.YgvaawGreat
