import Derived.Test.YgvaawGreatQ5
import Derived.Test.YgvaawGreatP7
set_option maxRecDepth 100000
set_option maxHeartbeats 4000000
set_option linter.unusedSimpArgs false
set_option linter.unusedVariables false
namespace Go.Proofs.YgvaawGreat
open Go
/-- the engine between transactions -/
structure EI (V : EV) (s : YSt) : Prop where
  a : 2600 * V.accts.length ≤ 2600 * (8 + 21 * s.applied) + 1048576 * s.applied
  sl : 2100 * V.slots.length ≤ 2100 * (128 + 64 * s.applied) + 1048576 * s.applied
  j : V.journal = []
  m : V.marks = []
  t : V.temps = []
theorem bA2_frm (s : YSt) (T : YTx) : (acctAt (bW s T).accts T.frm).bal = (bSnd s T).bal - T.gas * priceN s T := by
  have e : (bW s T).accts = bA2 s T := list_accts _ _
  have e2 : (setBal (acctAt (bA1 s T) T.frm) ((bSnd s T).bal - T.gas * priceN s T)).addr = T.frm := acct_ad _ _
  rw [e]
  unfold bA2
  rw [acct_put, e2, if_pos rfl]
  rfl
theorem intr_ge (T : YTx) : 21000 ≤ intrN T := by unfold intrN; omega
/-- the gas against the counts at the opening -/
theorem open_pot {V V' : EV} {s : YSt} {T : YTx} (h : EI V s) (v : Vd s T) (h1 : V'.accts.length ≤ V.accts.length + 22) (h2 : V'.slots.length ≤ V.slots.length + 64) (h3 : V'.journal.length ≤ 90) (h4 : V'.temps.length = 0) (h5 : V'.logs = []) (h6 : V'.marks = []) (h7 : V'.ref = 0) (c : Nat) (hc : c ≤ T.gas - intrN T + 100) : Pot V' [] (bS s T).applied (gasS (bS s T) + c) := by
  have hg : gasS (bS s T) = 0 := rfl
  have ha : (bS s T).applied = s.applied + 1 := rfl
  have hgas := v.gas
  have hin := intr_ge T
  have q1 := h.a
  have q2 := h.sl
  rw [hg, ha]
  refine ⟨by omega, by omega, by omega, by omega, by rw [h5]; show 375 * 0 + _ ≤ _; omega, by rw [h6]; show 100 * 0 + _ ≤ _; omega, by omega, fun A hA => by cases hA⟩
theorem open_va {V : EV} {s : YSt} {T : YTx} (hi : II s) (h : VA V (absY (bW s T)) [] (slF s.now.accts)) : VA V (absY (bS s T).now) [] (fun a k => triAt (bS s T).start a k) := by
  have e : (fun a k => triAt (bS s T).start a k) = slF s.now.accts := by
    funext a k
    exact start_at hi.ok a k
  rw [e]
  exact h
theorem open_px {V V' : EV} {s : YSt} {T : YTx} (hi : II s) (h : EI V s) (v : Vd s T) (hva : VA V' (absY (bW s T)) [] (slF s.now.accts)) (h1 : V'.accts.length ≤ V.accts.length + 22) (h2 : V'.slots.length ≤ V.slots.length + 64) (h3 : V'.journal.length ≤ 90) (h4 : V'.temps.length = 0) (h6 : V'.marks = []) (hor : hasA V' T.frm ∧ hasA V' s.env.coinbase) (c : Nat) (hc : c ≤ T.gas - intrN T + 100) : PX V' (bS s T) [] [] c := by
  have h5 : V'.logs = [] := by
    have h9 := congrArg AW.logs hva.abs
    have h8 : (absY (bW s T)).logs = [] := by
      have e8 : ∀ (l : List (Nat × List Nat)) (W : YWorld), (wList W l).logs = W.logs := by
        have e7 : ∀ (a : Nat) (ks : List Nat) (W : YWorld), (wKeys W a ks).logs = W.logs := by
          intro a ks
          induction ks with
          | nil => exact fun _ => rfl
          | cons k ks ih => exact fun W => ih _
        intro l
        induction l with
        | nil => exact fun _ => rfl
        | cons x l ih => exact fun W => (ih _).trans (e7 _ _ _)
      show (wList (bW3 s T) T.access).logs = []
      rw [e8]
      show s.now.logs = []
      rw [hi.now]
    exact h9.trans h8
  have h7 : V'.ref = 0 := by
    have h9 := congrArg AW.refund hva.abs
    have h8 : (absY (bW s T)).refund = 0 := by
      have e8 : ∀ (l : List (Nat × List Nat)) (W : YWorld), (wList W l).refund = W.refund := by
        have e7 : ∀ (a : Nat) (ks : List Nat) (W : YWorld), (wKeys W a ks).refund = W.refund := by
          intro a ks
          induction ks with
          | nil => exact fun _ => rfl
          | cons k ks ih => exact fun W => ih _
        intro l
        induction l with
        | nil => exact fun _ => rfl
        | cons x l ih => exact fun W => (ih _).trans (e7 _ _ _)
      show (wList (bW3 s T) T.access).refund = 0
      rw [e8]
      show s.now.refund = 0
      rw [hi.now]
    exact h9.trans h8
  exact ⟨open_va hi hva, (fun i f n h9 _ => by cases h9), (fun i j m n _ h9 _ => by cases h9), (fun f h9 => by cases h9), fun _ => hor, open_pot h v h1 h2 h3 h4 h5 h6 h7 c hc⟩
theorem has_nonce {V : EV} {a : Nat} (h : (absV V).nonce a ≠ 0) : hasA V a := by
  refine Classical.byContradiction fun hn => h ?_
  show (ax V a).nonce = 0
  rw [ax_no hn]
  rfl
theorem bA1_non (s : YSt) (T : YTx) : (acctAt (bA1 s T) T.frm).nonce = (bSnd s T).nonce + 1 := by
  have e : (setNon (acctAt s.now.accts T.frm) ((bSnd s T).nonce + 1)).addr = T.frm := acct_ad _ _
  unfold bA1
  rw [acct_put, e, if_pos rfl]
  rfl
theorem LO.frm0 {H : Store} {cs : Array Value} {bc : Nat} {q : LQ} (h : LO H cs bc q) (v v2 : Value) : LO H (spl (spl cs 1810 [v]) 1811 [v2]) bc q ∧ (spl (spl cs 1810 [v]) 1811 [v2])[1803 + 7]? = some v := by
  have hz := h.size
  have o1 : Out cs (spl cs 1810 [v]) 1810 1 := Out.spl (by rw [hz]; show 1810 + 1 ≤ 27024; decide) (Nat.le_refl _) (Nat.le_refl _)
  have h1 := h.out o1 (.inr (by decide))
  have o2 : Out (spl cs 1810 [v]) (spl (spl cs 1810 [v]) 1811 [v2]) 1811 1 := Out.spl (by rw [h1.size]; show 1811 + 1 ≤ 27024; decide) (Nat.le_refl _) (Nat.le_refl _)
  refine ⟨h1.out o2 (.inr (by decide)), ?_⟩
  rw [o2.get _ (by omega)]
  have hR : RowIn (spl cs 1810 [v]) 1810 [v] := RowIn.spl_self (by rw [hz]; show 1810 + 1 ≤ 27024; decide)
  exact hR 0 _ rfl
theorem LO.q {H : Store} {cs : Array Value} {bc : Nat} {q q2 : LQ} (h : LO H cs bc q) (e : q2 = q) : LO H cs bc q2 := e ▸ h
theorem PX.ph {V : EV} {s s' : YSt} {c : Nat} (p : PX V s [] [] c) (hf : s.frames = []) (e1 : s'.now = s.now) (e2 : s'.start = s.start) (e3 : s'.frames = s.frames) (e4 : s'.applied = s.applied) (hor : hasA V s'.origin ∧ hasA V s'.env.coinbase) : PX V s' [] [] c := by
  have hg : gasS s' = gasS s := by unfold gasS; rw [e3]
  refine ⟨by rw [e1, e2]; exact p.va, (fun i f n h9 _ => by rw [e3, hf] at h9; cases h9), (fun i j m n _ h9 _ => by cases h9), (fun f h9 => by rw [e3, hf] at h9; cases h9), fun _ => hor, by rw [e4, hg]; exact p.pot⟩
theorem e_taken {w : World} {H : Store} {col : Nat → Nat} {bc : Nat} {cs : Array Value} {V : EV} (hV : VL w H col bc cs V) (ho : VOk V) (hpS : cs[0]? = some (.pointer (some ⟨bc, 2435, none⟩))) {s : YSt} {sv : List AW} {og : Nat → Nat → Nat} (hva : VA V (absY s.now) sv og) (a : Nat) (ha : a < A160) :
    Ret 106 [.pointer (some ⟨bc, 0, none⟩), aV a] w (fun v w' => v = .bool (tknB s a) ∧ Up w w') := by
  have hnw := hV.new
  have hfz := hV.fz
  have hno : (absV V).nonce a = (acctAt s.now.accts a).nonce := by rw [hva.abs]; rfl
  have hcd : (absV V).code a = (acctAt s.now.accts a).code := by rw [hva.abs]; rfl
  refine enter (n := 22) Hvaa.func106 rfl rfl (Nat.le_of_ble_eq_true rfl) ?_
  have U := Up.refl w
  refine c_seq (fun K1 hK1 => ?_)
  exact (by
    refine c_region ?_
    refine l_eff (e_boxV (et (gS rfl g0) rfl)) (fun v2 w2 h2 => ?_)
    obtain ⟨b2, rfl, n2⟩ := h2
    have f2 : w.heap.size ≤ b2 := Nat.le_trans U.size n2.fresh
    replace hV := hV.up n2.up
    replace U := U.tr n2.up
    have k2 := n2.blk
    replace k2 : Blk w2 b2 (bL (be 20 a)).toArray := k2
    refine l_step y_assignC ?_
    refine l_nil ?_
    refine hK1 _ _ ?_
    refine fg2 0 3 (gS rfl (gS rfl g0)) (gS rfl g0) (fun g => ?_)
    refine c_seq (fun K3 hK3 => ?_)
    exact (by
      refine c_draw Up 18 [(0, true), (1, true), (2, true), (3, true), (4, true), (5, false), (6, true), (7, true), (8, true), (9, true), (10, true), (11, true), (12, true), (13, false), (14, true), (15, true), (16, true), (17, true)] (by kernel_rfl) (fun w4 hu => ⟨Up.refl _, ?_⟩)
      replace k2 := k2.up hu
      replace hV := hV.up hu
      replace U := U.tr hu
      have SU := Up.refl w4
      have hV_s := hV
      have k2_s := k2
      refine p_step (by exact rfl) (y_moveV (et (gS rfl g0) rfl)) ?_
      refine p_step (by exact rfl) (y_nil (et g0 rfl)) ?_
      refine p_step (by exact rfl) (y_fld fld_75_0 (et g0 rfl)) ?_
      refine p_step (by exact rfl) (y_load1 one_59 (et g0 rfl) (atS (hV_s.c1 hpS rfl))) ?_
      refine p_step (by exact rfl) (y_loadB agg_25 sz_25 (et (gS rfl (gS rfl (gS rfl (gS rfl g0)))) rfl) (by rw [List.size_toArray, length_bL, length_be]) (atSB k2_s)) ?_
      refine p_eff (by exact rfl) (e_callV cal_161 (aC (et (gS rfl g0) rfl) (aC (et g0 rfl) aN)) (v_nonce hV ho _ ha)) (fun v5 w5 h5 => ?_)
      obtain ⟨rfl, u5⟩ := h5
      replace k2 := k2.up u5
      replace hV := hV.up u5
      replace U := U.tr u5
      refine ⟨.inr (SU.tr u5), ?_⟩
      replace SU := SU.tr u5
      refine p_step (by exact rfl) (y_gtr (et g0 rfl) rfl) ?_
      refine p_step (by exact rfl) (y_moveV (et g0 rfl)) ?_
      refine gsplitP (i := 12) g0 (fun q6 => ?_) (fun q6 => ?_)
      · skip
        rw [hno] at q6
        have hn9 : 0 < (acctAt s.now.accts a).nonce := by have := of_decide_eq_true q6; omega
        refine p_gskip (j := 7) (t := 12) (by exact rfl) (by exact rfl) (by exact rfl) (et g0 rfl) rfl rfl ?_
        refine p_gskip (j := 7) (t := 12) (by exact rfl) (by exact rfl) (by exact rfl) (et (gS rfl g0) rfl) rfl rfl ?_
        refine p_gskip (j := 7) (t := 12) (by exact rfl) (by exact rfl) (by exact rfl) (et (gS rfl (gS rfl g0)) rfl) rfl rfl ?_
        refine p_gskip (j := 7) (t := 12) (by exact rfl) (by exact rfl) (by exact rfl) (et (gS rfl (gS rfl (gS rfl g0))) rfl) rfl rfl ?_
        refine p_gskip (j := 7) (t := 12) (by exact rfl) (by exact rfl) (by exact rfl) (et (gS rfl (gS rfl (gS rfl (gS rfl g0)))) rfl) rfl rfl ?_
        refine p_geskip (j := 7) (t := 12) (by exact rfl) (by exact rfl) (by exact rfl) (et (gS rfl (gS rfl (gS rfl (gS rfl (gS rfl g0))))) rfl) rfl rfl ⟨.inr SU, ?_⟩
        refine p_gskip (j := 7) (t := 12) (by exact rfl) (by exact rfl) (by exact rfl) (et (gS rfl (gS rfl (gS rfl (gS rfl (gS rfl (gS rfl g0)))))) rfl) rfl rfl ?_
        refine p_gskip (j := 7) (t := 12) (by exact rfl) (by exact rfl) (by exact rfl) (et (gS rfl (gS rfl (gS rfl (gS rfl (gS rfl (gS rfl (gS rfl g0))))))) rfl) rfl rfl ?_
        refine p_step (by exact rfl) (y_pickT (et (gS rfl (gS rfl (gS rfl (gS rfl (gS rfl (gS rfl (gS rfl (gS rfl g0)))))))) rfl) rfl) ?_
        refine p_step (by exact rfl) (y_assignV (et g0 rfl)) ?_
        refine p_nil ?_
        refine hK3 _ _ ?_
        refine fg1 4 g0 (fun g => ?_)
        refine c_ret ?_
        repeat with_reducible refine then_ret ?_
        refine ret1 rfl (res_tmp (et g0 rfl)) ?_
        exact ⟨congrArg Value.bool (by rw [tkn_eq, decide_eq_true hn9]; rfl), U⟩
      · skip
        rw [hno] at q6
        have hn9 : ¬ 0 < (acctAt s.now.accts a).nonce := by have := of_decide_eq_false q6; omega
        refine p_gstep (j := 7) (t := 12) (by exact rfl) (by exact rfl) (by exact rfl) (et g0 rfl) rfl (y_moveV (et (gS rfl (gS rfl (gS rfl (gS rfl (gS rfl (gS rfl (gS rfl (gS rfl (gS rfl (gS rfl g0)))))))))) rfl)) ?_
        refine p_gstep (j := 7) (t := 12) (by exact rfl) (by exact rfl) (by exact rfl) (et (gS rfl g0) rfl) rfl (y_nil (et g0 rfl)) ?_
        refine p_gstep (j := 7) (t := 12) (by exact rfl) (by exact rfl) (by exact rfl) (et (gS rfl (gS rfl g0)) rfl) rfl (y_fld fld_75_0 (et g0 rfl)) ?_
        refine p_gstep (j := 7) (t := 12) (by exact rfl) (by exact rfl) (by exact rfl) (et (gS rfl (gS rfl (gS rfl g0))) rfl) rfl (y_load1 one_59 (et g0 rfl) (atS (hV_s.c1 hpS rfl))) ?_
        refine p_gstep (j := 7) (t := 12) (by exact rfl) (by exact rfl) (by exact rfl) (et (gS rfl (gS rfl (gS rfl (gS rfl g0)))) rfl) rfl (y_loadB agg_25 sz_25 (et (gS rfl (gS rfl (gS rfl (gS rfl (gS rfl (gS rfl (gS rfl (gS rfl (gS rfl (gS rfl (gS rfl (gS rfl (gS rfl g0))))))))))))) rfl) (by rw [List.size_toArray, length_bL, length_be]) (atSB k2_s)) ?_
        refine p_geff (j := 7) (t := 12) (by exact rfl) (by exact rfl) (by exact rfl) (et (gS rfl (gS rfl (gS rfl (gS rfl (gS rfl g0))))) rfl) rfl (e_callV cal_103 (aC (et (gS rfl g0) rfl) (aC (et g0 rfl) aN)) (v_code hV ho _ ha)) (fun v7 w7 h7 => ?_)
        obtain ⟨H7, g7, n7⟩ := h7
        replace k2 := k2.up g7.up
        replace hV := hV.up g7.up
        replace U := U.tr g7.up
        obtain ⟨ca9, cc9, rfl⟩ := n7.sl
        refine ⟨.inr (SU.tr g7.up), ?_⟩
        replace SU := SU.tr g7.up
        refine p_gstep (j := 7) (t := 12) (by exact rfl) (by exact rfl) (by exact rfl) (et (gS rfl (gS rfl (gS rfl (gS rfl (gS rfl (gS rfl g0)))))) rfl) rfl (y_len Hvaa.underlying38 (et g0 rfl)) ?_
        refine p_gstep (j := 7) (t := 12) (by exact rfl) (by exact rfl) (by exact rfl) (et (gS rfl (gS rfl (gS rfl (gS rfl (gS rfl (gS rfl (gS rfl g0))))))) rfl) rfl (y_gtr (et g0 rfl) rfl) ?_
        refine p_step (by exact rfl) (y_pickF (et (gS rfl (gS rfl (gS rfl (gS rfl (gS rfl (gS rfl (gS rfl (gS rfl g0)))))))) rfl) (et g0 rfl)) ?_
        refine p_step (by exact rfl) (y_assignV (et g0 rfl)) ?_
        refine p_nil ?_
        refine hK3 _ _ ?_
        refine fg1 4 g0 (fun g => ?_)
        refine c_ret ?_
        repeat with_reducible refine then_ret ?_
        refine ret1 rfl (res_tmp (et g0 rfl)) ?_
        exact ⟨congrArg Value.bool (by rw [tkn_eq, decide_eq_false hn9, Bool.false_or, hcd]; exact decide_eq_decide.2 (by omega)), U⟩))
theorem e_openV {w : World} {H : Store} {col : Nat → Nat} {bc : Nat} {cs : Array Value} {V : EV} (hX : XR w H col w H col bc cs V []) (hF : Fz w H) {s : YSt} {tg hd : Option Nat} (hL : LO H cs bc (qOf s tg hd)) (hva : VA V (absY s.now) [] (slF s.now.accts)) (hi : II s) (hEI : EI V s) {txc : List Value} {T : YTx} (ht : TC H txc.toArray T) (htl : txc.length = 174) (hv0 : verdN s T ≠ 0) :
    Ret 35 [.pointer (some ⟨bc, 0, none⟩), .agg txc.toArray] w (fun v w' => v = .int .u8 (verdN s T : Nat) ∧ ∃ H', XR w H col w' H' col bc cs V [] ∧ LO H' cs bc (qOf s tg hd)) := by
  have hph := hi.ph
  have hnw := hX.vl.new
  have hfz := hX.vl.fz
  have hcC := hX.vl.colC
  obtain ⟨bm9, cm9, nn9, hMA9⟩ := hX.mx
  have hmt : cs[10]? = some (.int .u8 (0 : Nat)) := hMA9.tp
  clear hMA9
  have henv : EC H cs 2260 s.env := hL.env
  have eo := henv.ok
  obtain ⟨tda, tdc, taa, tac, rT1, rT2, rT3, rT4, rT5, rT6, rT7, rT8, rT9, hTd, hTa⟩ := ht.ex
  have tok := ht.ok
  have to1 := tok.data
  have to2 := tok.access
  refine enter (n := 233) Hvaa.func35 rfl rfl (Nat.le_of_ble_eq_true rfl) ?_
  have U : Ch (fun _ => True) w w := Ch.refl _ w
  have G : Go (fun _ => True) w H w H := Go.refl hF
  have hL0 : Le H H := Le.refl H
  refine c_seq (fun K1 hK1 => ?_)
  exact (by
    refine c_region ?_
    refine l_eff (e_boxV (et (gS rfl g0) rfl)) (fun v2 w2 h2 => ?_)
    obtain ⟨b2, rfl, n2⟩ := h2
    have f2 : w.heap.size ≤ b2 := Nat.le_trans U.size n2.fresh
    have nb2 := hF.nb n2.fresh
    replace G := G.tr (Go.ofUp hF n2.up)
    replace hF := hF.up n2.up
    replace hX := hX.up n2.up
    replace U := U.tr n2.up
    have k2 := n2.blk
    replace k2 : Blk w2 b2 txc.toArray := k2
    have nc2 : col b2 = 0 := hnw _ f2
    refine l_step y_assignC ?_
    refine l_nil ?_
    refine hK1 _ _ ?_
    refine fg2 0 3 (gS rfl (gS rfl g0)) (gS rfl g0) (fun g => ?_)
    refine c_seq (fun K3 hK3 => ?_)
    exact (by
      refine c_region ?_
      refine l_step (y_moveV (et (gS rfl g0) rfl)) ?_
      refine l_step (y_loadB agg_41 sz_41 (et (gS rfl g0) rfl) (by rw [List.size_toArray]; exact htl) (at1B k2)) ?_
      refine l_eff (e_callV cal_90 (aC (et (gS rfl g0) rfl) (aC (et g0 rfl) aN)) (e_verdict hX.vl hX.ok hF hL hva hph ht htl)) (fun v4 w4 h4 => ?_)
      obtain ⟨H4, pr9, rfl, hp9, g4⟩ := h4
      have hXn4 := hX.gn g4
      have hlew4 := g4.le
      replace nb2 := g4.nb nb2 k2.lt
      replace hL0 := hL0.trans hlew4
      replace k2 := k2.up g4.up
      replace hX := hX.up g4.up
      replace U := U.tr g4.up
      replace G := G.tr g4
      replace hF := g4.fz
      replace hX := hXn4
      replace hL := hL.mono g4.le
      refine l_step (y_moveV (et g0 rfl)) ?_
      refine l_step (y_ext (et g0 rfl) rfl) ?_
      refine l_step (y_ext (et (gS rfl g0) rfl) rfl) ?_
      refine l_eff (e_alloc zr_65) (fun v5 w5 h5 => ?_)
      obtain ⟨b5, rfl, n5⟩ := h5
      have d2_5 : b2 < b5 := Nat.lt_of_lt_of_le k2.lt n5.fresh
      have f5 : w.heap.size ≤ b5 := Nat.le_trans U.size n5.fresh
      have nb5 := hF.nb n5.fresh
      replace G := G.tr (Go.ofUp hF n5.up)
      replace hF := hF.up n5.up
      replace k2 := k2.up n5.up
      replace hX := hX.up n5.up
      replace U := U.tr n5.up
      have k5 := n5.blk
      replace k5 : Blk w5 b5 (wL 0).toArray := k5
      have nc5 : col b5 = 0 := hnw _ f5
      exact (by
        refine l_step (y_assignV (et (gS rfl (gS rfl g0)) rfl)) ?_
        refine l_effN (e_store sz_65 (et (gS rfl g0) rfl) (cellsV (et (gS rfl (gS rfl g0)) rfl) rfl) rfl (by exact one_uL _) k5 (by exact Nat.le_of_ble_eq_true rfl)) (fun v6 w6 h6 => ?_)
        obtain ⟨rfl, x6⟩ := h6
        replace k2 := k2.ch x6.ch (by omega)
        replace hX := hX.ch x6.ch (by first | omega | (intro b hb; first | (subst hb; first | exact ⟨by omega, fun hh => by have := hfz.lt hh; omega, by omega⟩ | exact ⟨by omega, by assumption, by omega⟩) | (rcases hb with hb | hb <;> (subst hb; first | exact ⟨by omega, fun hh => by have := hfz.lt hh; omega, by omega⟩ | exact ⟨by omega, by assumption, by omega⟩))))
        replace k5 := x6.blk.full rfl
        replace G := G.wr x6 (by first | exact .inr f5 | omega | (simp; omega)) nb5
        replace hF := G.fz
        replace U := U.st x6 (.inr f5)
        refine l_nil ?_
        refine hK3 _ _ ?_
        refine fg4 0 3 6 5 (gS rfl (gS rfl (gS rfl (gS rfl (gS rfl (gS rfl (gS rfl (gS rfl (gS rfl g0))))))))) (gS rfl (gS rfl (gS rfl (gS rfl (gS rfl (gS rfl (gS rfl (gS rfl g0)))))))) (gS rfl g0) g0 (fun g => ?_)
        refine c_seq (fun K7 hK7 => ?_)
        refine c_seq (fun K8 hK8 => ?_)
        exact (by
          refine c_region ?_
          refine l_step (y_moveV (et g0 rfl)) ?_
          refine l_step (y_neq (et g0 rfl) rfl) ?_
          refine l_nil ?_
          refine hK8 _ _ ?_
          refine fg5 0 3 6 5 20 (gS rfl (gS rfl (gS rfl (gS rfl (gS rfl g0))))) (gS rfl (gS rfl (gS rfl (gS rfl g0)))) (gS rfl (gS rfl (gS rfl g0))) (gS rfl (gS rfl g0)) g0 (fun g => ?_)
          refine c_true (et g0 rfl) (by (exact decide_eq_true (by omega))) ?_
          refine c_seq (fun K10 hK10 => ?_)
          exact (by
            refine c_region ?_
            refine l_step (y_moveV (et (gS rfl g0) rfl)) ?_
            refine l_step (y_assignV (et g0 rfl)) ?_
            refine l_nil ?_
            refine hK10 _ _ ?_
            refine fg1 4 g0 (fun g => ?_)
            refine c_ret ?_
            repeat with_reducible refine then_ret ?_
            refine ret1 rfl (res_tmp (et g0 rfl)) ?_
            exact ⟨rfl, _, hX, hL⟩)))))
theorem e_openT {w : World} {H : Store} {col : Nat → Nat} {bc : Nat} {cs : Array Value} {V : EV} (hX : XR w H col w H col bc cs V []) (hF : Fz w H) {s : YSt} {tg hd : Option Nat} (hL : LO H cs bc (qOf s tg hd)) (hva : VA V (absY s.now) [] (slF s.now.accts)) (hi : II s) (hEI : EI V s) {txc : List Value} {T : YTx} (ht : TC H txc.toArray T) (htl : txc.length = 174) (hv0 : verdN s T = 0) (hcr : T.create = false) :
    Ret 35 [.pointer (some ⟨bc, 0, none⟩), .agg txc.toArray] w (fun v w' => v = .int .u8 (0 : Nat) ∧ XO w H col w' bc (begY s T) 0) := by
  have hph := hi.ph
  have hnw := hX.vl.new
  have hfz := hX.vl.fz
  have hcC := hX.vl.colC
  obtain ⟨bm9, cm9, nn9, hMA9⟩ := hX.mx
  have hmt : cs[10]? = some (.int .u8 (0 : Nat)) := hMA9.tp
  clear hMA9
  have henv : EC H cs 2260 s.env := hL.env
  have eo := henv.ok
  obtain ⟨tda, tdc, taa, tac, rT1, rT2, rT3, rT4, rT5, rT6, rT7, rT8, rT9, hTd, hTa⟩ := ht.ex
  have tok := ht.ok
  have to1 := tok.data
  have to2 := tok.access
  have vd := vd_of hv0
  have hgas := vd.gas
  have hap := vd.ap
  have hin := intr_ge T
  have hin2 := vd.intr
  have hEa := hEI.a
  have hEs := hEI.sl
  have hEj : V.journal.length = 0 := by rw [hEI.j]; rfl
  have hEt : V.temps.length = 0 := by rw [hEI.t]; rfl
  have hEm : V.marks.length = 0 := by rw [hEI.m]; rfl
  have hnm : T.nonce < 18446744073709551615 := by have h1 := vd.nmx; have h2 := vd.non; have h3 := tok.nonce; omega
  have hbW : (bSnd s T).bal < W256 := by have h9 := hX.vl.balt hX.ok T.frm; rw [hva.abs] at h9; exact h9
  have hfee := vd.fee
  have hgW : T.gas < W256 := Nat.lt_trans tok.gas (by decide)
  have hpW : priceN s T < W256 := Nat.lt_of_le_of_lt (price_le vd).1 (feeM_lt tok)
  have hhW : T.gas * priceN s T < W256 := by omega
  have hls1 : T.access.length ≤ 16 ∧ keysN T.access ≤ 64 := by have h9 := vd.ls; unfold lsOk at h9; simpa using h9
  obtain ⟨hls2, hls3⟩ := hls1
  have hdl := vd.data
  have hTg : bTgt s T = T.to := if_neg (by rw [hcr]; exact Bool.false_ne_true)
  refine enter (n := 233) Hvaa.func35 rfl rfl (Nat.le_of_ble_eq_true rfl) ?_
  have U : Ch (fun _ => True) w w := Ch.refl _ w
  have G : Go (fun _ => True) w H w H := Go.refl hF
  have hL0 : Le H H := Le.refl H
  refine c_seq (fun K1 hK1 => ?_)
  exact (by
    refine c_region ?_
    refine l_eff (e_boxV (et (gS rfl g0) rfl)) (fun v2 w2 h2 => ?_)
    obtain ⟨b2, rfl, n2⟩ := h2
    have f2 : w.heap.size ≤ b2 := Nat.le_trans U.size n2.fresh
    have nb2 := hF.nb n2.fresh
    replace G := G.tr (Go.ofUp hF n2.up)
    replace hF := hF.up n2.up
    replace hX := hX.up n2.up
    replace U := U.tr n2.up
    have k2 := n2.blk
    replace k2 : Blk w2 b2 txc.toArray := k2
    have nc2 : col b2 = 0 := hnw _ f2
    refine l_step y_assignC ?_
    refine l_nil ?_
    refine hK1 _ _ ?_
    refine fg2 0 3 (gS rfl (gS rfl g0)) (gS rfl g0) (fun g => ?_)
    refine c_seq (fun K3 hK3 => ?_)
    exact (by
      refine c_region ?_
      refine l_step (y_moveV (et (gS rfl g0) rfl)) ?_
      refine l_step (y_loadB agg_41 sz_41 (et (gS rfl g0) rfl) (by rw [List.size_toArray]; exact htl) (at1B k2)) ?_
      refine l_eff (e_callV cal_90 (aC (et (gS rfl g0) rfl) (aC (et g0 rfl) aN)) (e_verdict hX.vl hX.ok hF hL hva hph ht htl)) (fun v4 w4 h4 => ?_)
      obtain ⟨H4, pr9, rfl, hp9, g4⟩ := h4
      have hXn4 := hX.gn g4
      have hlew4 := g4.le
      replace nb2 := g4.nb nb2 k2.lt
      replace hL0 := hL0.trans hlew4
      replace k2 := k2.up g4.up
      replace hX := hX.up g4.up
      replace U := U.tr g4.up
      replace G := G.tr g4
      replace hF := g4.fz
      obtain rfl : pr9 = priceN s T := hp9 hv0
      replace hX := hXn4
      replace hL := hL.mono g4.le
      refine l_step (y_moveV (et g0 rfl)) ?_
      refine l_step (y_ext (et g0 rfl) rfl) ?_
      refine l_step (y_ext (et (gS rfl g0) rfl) rfl) ?_
      refine l_eff (e_alloc zr_65) (fun v5 w5 h5 => ?_)
      obtain ⟨b5, rfl, n5⟩ := h5
      have d2_5 : b2 < b5 := Nat.lt_of_lt_of_le k2.lt n5.fresh
      have f5 : w.heap.size ≤ b5 := Nat.le_trans U.size n5.fresh
      have nb5 := hF.nb n5.fresh
      replace G := G.tr (Go.ofUp hF n5.up)
      replace hF := hF.up n5.up
      replace k2 := k2.up n5.up
      replace hX := hX.up n5.up
      replace U := U.tr n5.up
      have k5 := n5.blk
      replace k5 : Blk w5 b5 (wL 0).toArray := k5
      have nc5 : col b5 = 0 := hnw _ f5
      exact (by
        refine l_step (y_assignV (et (gS rfl (gS rfl g0)) rfl)) ?_
        refine l_effN (e_store sz_65 (et (gS rfl g0) rfl) (cellsV (et (gS rfl (gS rfl g0)) rfl) rfl) rfl (by exact one_uL _) k5 (by exact Nat.le_of_ble_eq_true rfl)) (fun v6 w6 h6 => ?_)
        obtain ⟨rfl, x6⟩ := h6
        replace k2 := k2.ch x6.ch (by omega)
        replace hX := hX.ch x6.ch (by first | omega | (intro b hb; first | (subst hb; first | exact ⟨by omega, fun hh => by have := hfz.lt hh; omega, by omega⟩ | exact ⟨by omega, by assumption, by omega⟩) | (rcases hb with hb | hb <;> (subst hb; first | exact ⟨by omega, fun hh => by have := hfz.lt hh; omega, by omega⟩ | exact ⟨by omega, by assumption, by omega⟩))))
        replace k5 := x6.blk.full rfl
        replace G := G.wr x6 (by first | exact .inr f5 | omega | (simp; omega)) nb5
        replace hF := G.fz
        replace U := U.st x6 (.inr f5)
        refine l_nil ?_
        refine hK3 _ _ ?_
        refine fg4 0 3 6 5 (gS rfl (gS rfl (gS rfl (gS rfl (gS rfl (gS rfl (gS rfl (gS rfl (gS rfl g0))))))))) (gS rfl (gS rfl (gS rfl (gS rfl (gS rfl (gS rfl (gS rfl (gS rfl g0)))))))) (gS rfl g0) g0 (fun g => ?_)
        refine c_seq (fun K7 hK7 => ?_)
        refine c_seq (fun K8 hK8 => ?_)
        exact (by
          refine c_region ?_
          refine l_step (y_moveV (et g0 rfl)) ?_
          refine l_step (y_neq (et g0 rfl) rfl) ?_
          refine l_nil ?_
          refine hK8 _ _ ?_
          refine fg5 0 3 6 5 20 (gS rfl (gS rfl (gS rfl (gS rfl (gS rfl g0))))) (gS rfl (gS rfl (gS rfl (gS rfl g0)))) (gS rfl (gS rfl (gS rfl g0))) (gS rfl (gS rfl g0)) g0 (fun g => ?_)
          refine c_false (et g0 rfl) (by (rw [hv0]; rfl)) ?_
          refine c_skip ?_
          refine hK7 _ _ ?_
          refine fg3 0 3 6 (gS rfl (gS rfl (gS rfl (gS rfl g0)))) (gS rfl (gS rfl (gS rfl g0))) (gS rfl (gS rfl g0)) (fun g => ?_)
          refine c_seq (fun K10 hK10 => ?_)
          refine c_seq (fun K11 hK11 => ?_)
          exact (by
            refine c_region ?_
            refine l_step (y_moveV (et (gS rfl (gS rfl g0)) rfl)) ?_
            refine l_eff (e_callV cal_91 (aC (et g0 rfl) aN) (e_spacious hX.vl hX.ok hL hmt (by omega) (by omega) (by omega) (by omega))) (fun v12 w12 h12 => ?_)
            obtain ⟨rfl, u12⟩ := h12
            replace G := G.tr (Go.ofUp hF u12)
            replace hF := hF.up u12
            replace k2 := k2.up u12
            replace k5 := k5.up u12
            replace hX := hX.up u12
            replace U := U.tr u12
            refine l_step (y_not (et g0 rfl)) ?_
            refine l_nil ?_
            refine hK11 _ _ ?_
            refine fg4 0 3 6 24 (gS rfl (gS rfl (gS rfl (gS rfl (gS rfl g0))))) (gS rfl (gS rfl (gS rfl (gS rfl g0)))) (gS rfl (gS rfl (gS rfl g0))) g0 (fun g => ?_)
            refine c_false (et g0 rfl) (by rfl) ?_
            refine c_skip ?_
            refine hK10 _ _ ?_
            refine fg3 0 3 6 (gS rfl (gS rfl (gS rfl g0))) (gS rfl (gS rfl g0)) (gS rfl g0) (fun g => ?_)
            refine c_seq (fun K14 hK14 => ?_)
            exact (by
              refine c_region ?_
              refine l_step (y_moveV (et (gS rfl (gS rfl g0)) rfl)) ?_
              refine l_step (y_nil (et g0 rfl)) ?_
              refine l_step (y_fld fld_75_0 (et g0 rfl)) ?_
              refine l_step (y_load1 one_59 (et g0 rfl) (at1 (hX.vl.c1 hL.pS rfl))) ?_
              refine l_eff (e_callV cal_92 (aC (et g0 rfl) aN) (v_sizes hX.vl hX.ok)) (fun v15 w15 h15 => ?_)
              obtain ⟨rfl, u15⟩ := h15
              replace G := G.tr (Go.ofUp hF u15)
              replace hF := hF.up u15
              replace k2 := k2.up u15
              replace k5 := k5.up u15
              replace hX := hX.up u15
              replace U := U.tr u15
              refine l_step (y_moveV (et g0 rfl)) ?_
              refine l_step (y_ext (et g0 rfl) rfl) ?_
              refine l_step (y_ext (et (gS rfl g0) rfl) rfl) ?_
              refine l_step (y_ext (et (gS rfl (gS rfl g0)) rfl) rfl) ?_
              refine l_step (y_ext (et (gS rfl (gS rfl (gS rfl g0))) rfl) rfl) ?_
              refine l_step (y_assignV (et (gS rfl (gS rfl (gS rfl g0))) rfl)) ?_
              refine l_step (y_assignV (et (gS rfl (gS rfl (gS rfl g0))) rfl)) ?_
              refine l_step (y_assignV (et (gS rfl (gS rfl (gS rfl g0))) rfl)) ?_
              refine l_step (y_assignV (et (gS rfl (gS rfl (gS rfl g0))) rfl)) ?_
              refine l_nil ?_
              refine hK14 _ _ ?_
              refine fg6 0 3 6 7 8 10 (gS rfl (gS rfl (gS rfl (gS rfl (gS rfl (gS rfl (gS rfl (gS rfl (gS rfl (gS rfl (gS rfl (gS rfl (gS rfl (gS rfl (gS rfl (gS rfl g0)))))))))))))))) (gS rfl (gS rfl (gS rfl (gS rfl (gS rfl (gS rfl (gS rfl (gS rfl (gS rfl (gS rfl (gS rfl (gS rfl (gS rfl (gS rfl (gS rfl g0))))))))))))))) (gS rfl (gS rfl (gS rfl (gS rfl (gS rfl (gS rfl (gS rfl (gS rfl (gS rfl (gS rfl (gS rfl (gS rfl (gS rfl (gS rfl g0)))))))))))))) (gS rfl (gS rfl (gS rfl g0))) (gS rfl (gS rfl g0)) g0 (fun g => ?_)
              refine c_seq (fun K16 hK16 => ?_)
              exact (by
                refine c_region ?_
                refine l_step (y_fld fld_41_1 (et (gS rfl (gS rfl (gS rfl (gS rfl g0)))) rfl)) ?_
                refine l_step (y_loadR agg_25 sz_25 (et g0 rfl) (by rw [length_bL, length_be]) (at1R (k2.row rT2))) ?_
                refine l_eff (e_alloc zr_25) (fun v17 w17 h17 => ?_)
                obtain ⟨b17, rfl, n17⟩ := h17
                have d2_17 : b2 < b17 := Nat.lt_of_lt_of_le k2.lt n17.fresh
                have d5_17 : b5 < b17 := Nat.lt_of_lt_of_le k5.lt n17.fresh
                have f17 : w.heap.size ≤ b17 := Nat.le_trans U.size n17.fresh
                have nb17 := hF.nb n17.fresh
                replace G := G.tr (Go.ofUp hF n17.up)
                replace hF := hF.up n17.up
                replace k2 := k2.up n17.up
                replace k5 := k5.up n17.up
                replace hX := hX.up n17.up
                replace U := U.tr n17.up
                have k17 := n17.blk
                have nc17 : col b17 = 0 := hnw _ f17
                refine l_effN (e_store sz_25 (et g0 rfl) (cellsV (et (gS rfl g0) rfl) rfl) (by rw [length_bL, length_be]) (by exact one_bL _) k17 (by exact Nat.le_of_ble_eq_true rfl)) (fun v18 w18 h18 => ?_)
                obtain ⟨rfl, x18⟩ := h18
                replace k2 := k2.ch x18.ch (by omega)
                replace k5 := k5.ch x18.ch (by omega)
                replace hX := hX.ch x18.ch (by first | omega | (intro b hb; first | (subst hb; first | exact ⟨by omega, fun hh => by have := hfz.lt hh; omega, by omega⟩ | exact ⟨by omega, by assumption, by omega⟩) | (rcases hb with hb | hb <;> (subst hb; first | exact ⟨by omega, fun hh => by have := hfz.lt hh; omega, by omega⟩ | exact ⟨by omega, by assumption, by omega⟩))))
                replace k17 := x18.blk.full (by rw [length_bL, length_be]; rfl)
                replace G := G.wr x18 (by first | exact .inr f17 | omega | (simp; omega)) nb17
                replace hF := G.fz
                replace U := U.st x18 (.inr f17)
                refine l_nil ?_
                refine hK16 _ _ ?_
                refine fg7 0 3 6 7 8 10 11 (gS rfl (gS rfl (gS rfl (gS rfl (gS rfl (gS rfl (gS rfl (gS rfl g0)))))))) (gS rfl (gS rfl (gS rfl (gS rfl (gS rfl (gS rfl (gS rfl g0))))))) (gS rfl (gS rfl (gS rfl (gS rfl (gS rfl (gS rfl g0)))))) (gS rfl (gS rfl (gS rfl (gS rfl (gS rfl g0))))) (gS rfl (gS rfl (gS rfl (gS rfl g0)))) (gS rfl (gS rfl (gS rfl g0))) g0 (fun g => ?_)
                refine c_seq (fun K19 hK19 => ?_)
                exact (by
                  refine c_region ?_
                  refine l_step (y_moveV (et (gS rfl (gS rfl (gS rfl (gS rfl (gS rfl (gS rfl g0)))))) rfl)) ?_
                  refine l_step (y_bld bN bld25_z) ?_
                  refine l_step (y_nil (et (gS rfl g0) rfl)) ?_
                  refine l_step (y_fld fld_75_17 (et g0 rfl)) ?_
                  refine l_effN (e_store sz_25 (et g0 rfl) (cellsV (et (gS rfl (gS rfl g0)) rfl) rfl) (by rw [length_bL, length_be]) (by exact one_bL _) hX.vl.kC (by rw [hX.vl.size]; omega)) (fun v20 w20 h20 => ?_)
                  obtain ⟨rfl, x20⟩ := h20
                  have hv20 := hX.st x20 (by decide) (by rw [length_bL, length_be]; decide)
                  replace G := G.chs x20.ch (by intro b hb; exact .inl trivial) (by intro q hq hh; have h9 := hX.vl.kept q hh; rw [hq] at h9; omega)
                  replace hF := G.fz
                  replace k2 := k2.ch x20.ch (by intro hm; first | omega | (subst hm; omega))
                  replace k5 := k5.ch x20.ch (by intro hm; first | omega | (subst hm; omega))
                  replace k17 := k17.ch x20.ch (by intro hm; first | omega | (subst hm; omega))
                  replace hX := hv20
                  replace U := U.cc x20.ch (by intro b hb; exact .inl trivial)
                  replace hL := (show LO _ _ bc ⟨s.ret, s.env, s.origin, s.price, s.phase, s.status, s.applied, s.limit, tg, hd, 0⟩ from hL.stMd 0)
                  refine l_nil ?_
                  refine hK19 _ _ ?_
                  refine fg7 0 3 6 7 8 10 11 (gS rfl (gS rfl (gS rfl (gS rfl (gS rfl (gS rfl (gS rfl (gS rfl (gS rfl (gS rfl g0)))))))))) (gS rfl (gS rfl (gS rfl (gS rfl (gS rfl (gS rfl (gS rfl (gS rfl (gS rfl g0))))))))) (gS rfl (gS rfl (gS rfl (gS rfl (gS rfl (gS rfl (gS rfl (gS rfl g0)))))))) (gS rfl (gS rfl (gS rfl (gS rfl (gS rfl (gS rfl (gS rfl g0))))))) (gS rfl (gS rfl (gS rfl (gS rfl (gS rfl (gS rfl g0)))))) (gS rfl (gS rfl (gS rfl (gS rfl (gS rfl g0))))) (gS rfl (gS rfl (gS rfl (gS rfl g0)))) (fun g => ?_)
                  refine c_seq (fun K21 hK21 => ?_)
                  refine c_seq (fun K22 hK22 => ?_)
                  exact (by
                    refine c_region ?_
                    refine l_step (y_fld fld_41_2 (et (gS rfl (gS rfl (gS rfl (gS rfl (gS rfl g0))))) rfl)) ?_
                    refine l_step (y_load1 one_4 (et g0 rfl) (at1 (k2.cell (rT3 0 _ rfl)))) ?_
                    refine l_nil ?_
                    refine hK22 _ _ ?_
                    refine fg8 0 3 6 7 8 10 11 42 (gS rfl (gS rfl (gS rfl (gS rfl (gS rfl (gS rfl (gS rfl (gS rfl g0)))))))) (gS rfl (gS rfl (gS rfl (gS rfl (gS rfl (gS rfl (gS rfl g0))))))) (gS rfl (gS rfl (gS rfl (gS rfl (gS rfl (gS rfl g0)))))) (gS rfl (gS rfl (gS rfl (gS rfl (gS rfl g0))))) (gS rfl (gS rfl (gS rfl (gS rfl g0)))) (gS rfl (gS rfl (gS rfl g0))) (gS rfl (gS rfl g0)) g0 (fun g => ?_)
                    refine c_false (et g0 rfl) (by (exact hcr)) ?_
                    refine c_skip ?_
                    refine hK21 _ _ ?_
                    refine fg7 0 3 6 7 8 10 11 (gS rfl (gS rfl (gS rfl (gS rfl (gS rfl (gS rfl (gS rfl g0))))))) (gS rfl (gS rfl (gS rfl (gS rfl (gS rfl (gS rfl g0)))))) (gS rfl (gS rfl (gS rfl (gS rfl (gS rfl g0))))) (gS rfl (gS rfl (gS rfl (gS rfl g0)))) (gS rfl (gS rfl (gS rfl g0))) (gS rfl (gS rfl g0)) (gS rfl g0) (fun g => ?_)
                    refine c_seq (fun K24 hK24 => ?_)
                    exact (by
                      refine c_region ?_
                      refine l_step (y_moveV (et (gS rfl (gS rfl (gS rfl (gS rfl (gS rfl (gS rfl g0)))))) rfl)) ?_
                      refine l_step (y_moveV (et (gS rfl (gS rfl (gS rfl (gS rfl g0)))) rfl)) ?_
                      refine l_step (y_nil (et (gS rfl g0) rfl)) ?_
                      refine l_step (y_fld fld_75_15 (et g0 rfl)) ?_
                      refine l_effN (e_store sz_21 (et g0 rfl) (cellsV (et (gS rfl (gS rfl g0)) rfl) rfl) rfl (by intro v hv; simp at hv; subst hv; rfl) hX.vl.kC (by rw [hX.vl.size]; omega)) (fun v25 w25 h25 => ?_)
                      obtain ⟨rfl, x25⟩ := h25
                      have hv25 := hX.st x25 (by decide) (Nat.le_of_ble_eq_true rfl)
                      replace G := G.chs x25.ch (by intro b hb; exact .inl trivial) (by intro q hq hh; have h9 := hX.vl.kept q hh; rw [hq] at h9; omega)
                      replace hF := G.fz
                      replace k2 := k2.ch x25.ch (by intro hm; first | omega | (subst hm; omega))
                      replace k5 := k5.ch x25.ch (by intro hm; first | omega | (subst hm; omega))
                      replace k17 := k17.ch x25.ch (by intro hm; first | omega | (subst hm; omega))
                      replace hX := hv25
                      replace U := U.cc x25.ch (by intro b hb; exact .inl trivial)
                      replace hL := (show LO _ _ bc ⟨s.ret, s.env, s.origin, s.price, s.phase, s.status, s.applied, s.limit, tg, hd, 0⟩ from hL.stA0 (.int .i32 (V.accts.length : Nat)))
                      refine l_nil ?_
                      refine hK24 _ _ ?_
                      refine fg6 0 3 6 8 10 11 (gS rfl (gS rfl (gS rfl (gS rfl (gS rfl (gS rfl (gS rfl (gS rfl (gS rfl (gS rfl g0)))))))))) (gS rfl (gS rfl (gS rfl (gS rfl (gS rfl (gS rfl (gS rfl (gS rfl (gS rfl g0))))))))) (gS rfl (gS rfl (gS rfl (gS rfl (gS rfl (gS rfl (gS rfl (gS rfl g0)))))))) (gS rfl (gS rfl (gS rfl (gS rfl (gS rfl (gS rfl g0)))))) (gS rfl (gS rfl (gS rfl (gS rfl (gS rfl g0))))) (gS rfl (gS rfl (gS rfl (gS rfl g0)))) (fun g => ?_)
                      refine c_seq (fun K26 hK26 => ?_)
                      exact (by
                        refine c_region ?_
                        refine l_step (y_moveV (et (gS rfl (gS rfl (gS rfl (gS rfl (gS rfl g0))))) rfl)) ?_
                        refine l_step (y_moveV (et (gS rfl (gS rfl (gS rfl g0))) rfl)) ?_
                        refine l_step (y_nil (et (gS rfl g0) rfl)) ?_
                        refine l_step (y_fld fld_75_16 (et g0 rfl)) ?_
                        refine l_effN (e_store sz_21 (et g0 rfl) (cellsV (et (gS rfl (gS rfl g0)) rfl) rfl) rfl (by intro v hv; simp at hv; subst hv; rfl) hX.vl.kC (by rw [hX.vl.size]; omega)) (fun v27 w27 h27 => ?_)
                        obtain ⟨rfl, x27⟩ := h27
                        have hv27 := hX.st x27 (by decide) (Nat.le_of_ble_eq_true rfl)
                        replace G := G.chs x27.ch (by intro b hb; exact .inl trivial) (by intro q hq hh; have h9 := hX.vl.kept q hh; rw [hq] at h9; omega)
                        replace hF := G.fz
                        replace k2 := k2.ch x27.ch (by intro hm; first | omega | (subst hm; omega))
                        replace k5 := k5.ch x27.ch (by intro hm; first | omega | (subst hm; omega))
                        replace k17 := k17.ch x27.ch (by intro hm; first | omega | (subst hm; omega))
                        replace hX := hv27
                        replace U := U.cc x27.ch (by intro b hb; exact .inl trivial)
                        replace hL := (show LO _ _ bc ⟨s.ret, s.env, s.origin, s.price, s.phase, s.status, s.applied, s.limit, tg, hd, 0⟩ from hL.stS0 (.int .i32 (V.slots.length : Nat)))
                        refine l_nil ?_
                        refine hK26 _ _ ?_
                        refine fg5 0 3 6 10 11 (gS rfl (gS rfl (gS rfl (gS rfl (gS rfl (gS rfl (gS rfl (gS rfl (gS rfl g0))))))))) (gS rfl (gS rfl (gS rfl (gS rfl (gS rfl (gS rfl (gS rfl (gS rfl g0)))))))) (gS rfl (gS rfl (gS rfl (gS rfl (gS rfl (gS rfl (gS rfl g0))))))) (gS rfl (gS rfl (gS rfl (gS rfl (gS rfl g0))))) (gS rfl (gS rfl (gS rfl (gS rfl g0)))) (fun g => ?_)
                        refine c_seq (fun K28 hK28 => ?_)
                        exact (by
                          refine c_region ?_
                          refine l_step (y_moveV (et (gS rfl (gS rfl (gS rfl (gS rfl g0)))) rfl)) ?_
                          refine l_step (y_nil (et g0 rfl)) ?_
                          refine l_step (y_fld fld_75_11 (et g0 rfl)) ?_
                          refine l_step (y_load1 one_5 (et g0 rfl) (at1 (hX.vl.c1 (show _ = some (.int .u8 (s.applied : Nat)) from hL.app) rfl))) ?_
                          refine l_step (y_add (et g0 rfl) rfl (wrapU_addN (b := 1) uk8 ?_)) ?_
                          (have := vd.ap; omega)
                          refine l_step (y_nil (et (gS rfl (gS rfl (gS rfl (gS rfl g0)))) rfl)) ?_
                          refine l_step (y_fld fld_75_11 (et g0 rfl)) ?_
                          refine l_effN (e_store sz_5 (et g0 rfl) (cellsV (et (gS rfl (gS rfl g0)) rfl) rfl) rfl (by intro v hv; simp at hv; subst hv; rfl) hX.vl.kC (by rw [hX.vl.size]; omega)) (fun v29 w29 h29 => ?_)
                          obtain ⟨rfl, x29⟩ := h29
                          have hv29 := hX.st x29 (by decide) (Nat.le_of_ble_eq_true rfl)
                          replace G := G.chs x29.ch (by intro b hb; exact .inl trivial) (by intro q hq hh; have h9 := hX.vl.kept q hh; rw [hq] at h9; omega)
                          replace hF := G.fz
                          replace k2 := k2.ch x29.ch (by intro hm; first | omega | (subst hm; omega))
                          replace k5 := k5.ch x29.ch (by intro hm; first | omega | (subst hm; omega))
                          replace k17 := k17.ch x29.ch (by intro hm; first | omega | (subst hm; omega))
                          replace hX := hv29
                          replace U := U.cc x29.ch (by intro b hb; exact .inl trivial)
                          replace hL := (show LO _ _ bc ⟨s.ret, s.env, s.origin, s.price, s.phase, s.status, s.applied + 1, s.limit, tg, hd, 0⟩ from hL.stAp (s.applied + 1))
                          refine l_nil ?_
                          refine hK28 _ _ ?_
                          refine fg5 0 3 6 10 11 (gS rfl (gS rfl (gS rfl (gS rfl (gS rfl (gS rfl (gS rfl (gS rfl (gS rfl (gS rfl (gS rfl g0))))))))))) (gS rfl (gS rfl (gS rfl (gS rfl (gS rfl (gS rfl (gS rfl (gS rfl (gS rfl (gS rfl g0)))))))))) (gS rfl (gS rfl (gS rfl (gS rfl (gS rfl (gS rfl (gS rfl (gS rfl (gS rfl g0))))))))) (gS rfl (gS rfl (gS rfl (gS rfl (gS rfl (gS rfl (gS rfl (gS rfl g0)))))))) (gS rfl (gS rfl (gS rfl (gS rfl (gS rfl (gS rfl (gS rfl g0))))))) (fun g => ?_)
                          refine c_seq (fun K30 hK30 => ?_)
                          exact (by
                            refine c_region ?_
                            refine l_step (y_moveV (et (gS rfl (gS rfl (gS rfl (gS rfl g0)))) rfl)) ?_
                            refine l_step (y_fld fld_41_4 (et (gS rfl (gS rfl (gS rfl (gS rfl g0)))) rfl)) ?_
                            refine l_step (y_load1 one_26 (et g0 rfl) (at1 (k2.cell (rT3 2 _ rfl)))) ?_
                            refine l_step (y_nil (et (gS rfl (gS rfl g0)) rfl)) ?_
                            refine l_step (y_fld fld_75_12 (et g0 rfl)) ?_
                            refine l_effN (e_store sz_26 (et g0 rfl) (cellsV (et (gS rfl (gS rfl g0)) rfl) rfl) rfl (by intro v hv; simp at hv; subst hv; rfl) hX.vl.kC (by rw [hX.vl.size]; omega)) (fun v31 w31 h31 => ?_)
                            obtain ⟨rfl, x31⟩ := h31
                            have hv31 := hX.st x31 (by decide) (Nat.le_of_ble_eq_true rfl)
                            replace G := G.chs x31.ch (by intro b hb; exact .inl trivial) (by intro q hq hh; have h9 := hX.vl.kept q hh; rw [hq] at h9; omega)
                            replace hF := G.fz
                            replace k2 := k2.ch x31.ch (by intro hm; first | omega | (subst hm; omega))
                            replace k5 := k5.ch x31.ch (by intro hm; first | omega | (subst hm; omega))
                            replace k17 := k17.ch x31.ch (by intro hm; first | omega | (subst hm; omega))
                            replace hX := hv31
                            replace U := U.cc x31.ch (by intro b hb; exact .inl trivial)
                            replace hL := (show LO _ _ bc ⟨s.ret, s.env, s.origin, s.price, s.phase, s.status, s.applied + 1, T.gas, tg, hd, 0⟩ from hL.stLi T.gas)
                            refine l_nil ?_
                            refine hK30 _ _ ?_
                            refine fg5 0 3 6 10 11 (gS rfl (gS rfl (gS rfl (gS rfl (gS rfl (gS rfl (gS rfl (gS rfl (gS rfl g0))))))))) (gS rfl (gS rfl (gS rfl (gS rfl (gS rfl (gS rfl (gS rfl (gS rfl g0)))))))) (gS rfl (gS rfl (gS rfl (gS rfl (gS rfl (gS rfl (gS rfl g0))))))) (gS rfl (gS rfl (gS rfl (gS rfl (gS rfl (gS rfl g0)))))) (gS rfl (gS rfl (gS rfl (gS rfl (gS rfl g0))))) (fun g => ?_)
                            refine c_seq (fun K32 hK32 => ?_)
                            exact (by
                              refine c_draw Up 8 [(0, true), (1, true), (2, true), (3, true), (4, false), (5, true), (6, true), (7, true), (8, false)] (by kernel_rfl) (fun w33 hu => ⟨Up.refl _, ?_⟩)
                              replace G := G.tr (Go.ofUp hF hu)
                              replace hF := hF.up hu
                              replace k2 := k2.up hu
                              replace k5 := k5.up hu
                              replace k17 := k17.up hu
                              replace hX := hX.up hu
                              replace U := U.tr hu
                              have SU := Up.refl w33
                              refine p_step (by exact rfl) (y_moveV (et (gS rfl (gS rfl (gS rfl (gS rfl g0)))) rfl)) ?_
                              refine p_step (by exact rfl) (y_fld fld_41_4 (et (gS rfl (gS rfl (gS rfl (gS rfl g0)))) rfl)) ?_
                              refine p_step (by exact rfl) (y_load1 one_26 (et g0 rfl) (atS (k2.cell (rT3 2 _ rfl)))) ?_
                              refine p_step (by exact rfl) (y_loadB agg_41 sz_41 (et (gS rfl (gS rfl (gS rfl (gS rfl (gS rfl (gS rfl g0)))))) rfl) (by rw [List.size_toArray]; exact htl) (atSB k2)) ?_
                              refine p_eff (by exact rfl) (e_callV cal_94 (aC (et g0 rfl) aN) (mach_intrinsic hF (ht.mono hL0) vd.data vd.ls)) (fun v34 w34 h34 => ?_)
                              obtain ⟨rfl, u34⟩ := h34
                              replace G := G.tr (Go.ofUp hF u34)
                              replace hF := hF.up u34
                              replace k2 := k2.up u34
                              replace k5 := k5.up u34
                              replace k17 := k17.up u34
                              replace hX := hX.up u34
                              replace U := U.tr u34
                              refine ⟨.inr (SU.tr u34), ?_⟩
                              replace SU := SU.tr u34
                              refine p_step (by exact rfl) (y_sub (et (gS rfl (gS rfl g0)) rfl) (et g0 rfl) (wrapU_subN uk64 ?_ ?_)) ?_
                              exact vd.intr
                              (have := vd.gas; omega)
                              refine p_step (by exact rfl) (y_nil (et (gS rfl (gS rfl (gS rfl (gS rfl (gS rfl g0))))) rfl)) ?_
                              refine p_step (by exact rfl) (y_fld fld_75_13 (et g0 rfl)) ?_
                              refine p_effN (by exact rfl) (e_store sz_26 (et g0 rfl) (cellsV (et (gS rfl (gS rfl g0)) rfl) rfl) rfl (by intro v hv; simp at hv; subst hv; rfl) hX.vl.kC (by rw [hX.vl.size]; omega)) (fun v35 w35 h35 => ?_)
                              obtain ⟨rfl, x35⟩ := h35
                              have hv35 := hX.st x35 (by decide) (Nat.le_of_ble_eq_true rfl)
                              replace G := G.chs x35.ch (by intro b hb; exact .inl trivial) (by intro q hq hh; have h9 := hX.vl.kept q hh; rw [hq] at h9; omega)
                              replace hF := G.fz
                              replace k2 := k2.ch x35.ch (by intro hm; first | omega | (subst hm; omega))
                              replace k5 := k5.ch x35.ch (by intro hm; first | omega | (subst hm; omega))
                              replace k17 := k17.ch x35.ch (by intro hm; first | omega | (subst hm; omega))
                              replace hX := hv35
                              replace U := U.cc x35.ch (by intro b hb; exact .inl trivial)
                              replace hL := (show LO _ _ bc ⟨s.ret, s.env, s.origin, s.price, s.phase, s.status, s.applied + 1, T.gas, some (T.gas - intrN T), hd, 0⟩ from hL.stTg (T.gas - intrN T))
                              refine ⟨.inl rfl, ?_⟩
                              refine p_nil ?_
                              refine hK32 _ _ ?_
                              refine fg5 0 3 6 10 11 (gS rfl (gS rfl (gS rfl (gS rfl (gS rfl (gS rfl (gS rfl (gS rfl (gS rfl (gS rfl (gS rfl (gS rfl g0)))))))))))) (gS rfl (gS rfl (gS rfl (gS rfl (gS rfl (gS rfl (gS rfl (gS rfl (gS rfl (gS rfl (gS rfl g0))))))))))) (gS rfl (gS rfl (gS rfl (gS rfl (gS rfl (gS rfl (gS rfl (gS rfl (gS rfl (gS rfl g0)))))))))) (gS rfl (gS rfl (gS rfl (gS rfl (gS rfl (gS rfl (gS rfl (gS rfl (gS rfl g0))))))))) (gS rfl (gS rfl (gS rfl (gS rfl (gS rfl (gS rfl (gS rfl (gS rfl g0)))))))) (fun g => ?_)
                              refine c_seq (fun K36 hK36 => ?_)
                              exact (by
                                refine c_region ?_
                                refine l_step (y_moveV (et (gS rfl (gS rfl (gS rfl (gS rfl g0)))) rfl)) ?_
                                refine l_step (y_fld fld_41_4 (et (gS rfl (gS rfl (gS rfl (gS rfl g0)))) rfl)) ?_
                                refine l_step (y_load1 one_26 (et g0 rfl) (at1 (k2.cell (rT3 2 _ rfl)))) ?_
                                refine l_step (y_bld (bC (et g0 rfl) bN) (bld65_w _ tok.gas)) ?_
                                refine l_step (y_loadB agg_65 sz_65 (et (gS rfl (gS rfl (gS rfl (gS rfl (gS rfl (gS rfl g0)))))) rfl) rfl (at1B k5)) ?_
                                refine l_eff (e_callV cal_95 (aC (et (gS rfl g0) rfl) (aC (et g0 rfl) aN)) (show Ret 95 [wV T.gas, wV (priceN s T)] _ (fun v w' => v = wV (T.gas * priceN s T) ∧ Up _ w') from mul_ok _ _ _ hgW hpW hhW)) (fun v37 w37 h37 => ?_)
                                obtain ⟨rfl, u37⟩ := h37
                                replace G := G.tr (Go.ofUp hF u37)
                                replace hF := hF.up u37
                                replace k2 := k2.up u37
                                replace k5 := k5.up u37
                                replace k17 := k17.up u37
                                replace hX := hX.up u37
                                replace U := U.tr u37
                                refine l_step (y_nil (et (gS rfl (gS rfl (gS rfl (gS rfl (gS rfl g0))))) rfl)) ?_
                                refine l_step (y_fld fld_75_14 (et g0 rfl)) ?_
                                refine l_effN (e_store sz_65 (et g0 rfl) (cellsV (et (gS rfl (gS rfl g0)) rfl) rfl) rfl (by exact one_uL _) hX.vl.kC (by rw [hX.vl.size]; omega)) (fun v38 w38 h38 => ?_)
                                obtain ⟨rfl, x38⟩ := h38
                                have hv38 := hX.st x38 (by decide) (Nat.le_of_ble_eq_true rfl)
                                replace G := G.chs x38.ch (by intro b hb; exact .inl trivial) (by intro q hq hh; have h9 := hX.vl.kept q hh; rw [hq] at h9; omega)
                                replace hF := G.fz
                                replace k2 := k2.ch x38.ch (by intro hm; first | omega | (subst hm; omega))
                                replace k5 := k5.ch x38.ch (by intro hm; first | omega | (subst hm; omega))
                                replace k17 := k17.ch x38.ch (by intro hm; first | omega | (subst hm; omega))
                                replace hX := hv38
                                replace U := U.cc x38.ch (by intro b hb; exact .inl trivial)
                                replace hL := (show LO _ _ bc ⟨s.ret, s.env, s.origin, s.price, s.phase, s.status, s.applied + 1, T.gas, some (T.gas - intrN T), some (T.gas * priceN s T), 0⟩ from hL.stHd (T.gas * priceN s T))
                                refine l_nil ?_
                                refine hK36 _ _ ?_
                                refine fg5 0 3 6 10 11 (gS rfl (gS rfl (gS rfl (gS rfl (gS rfl (gS rfl (gS rfl (gS rfl (gS rfl (gS rfl (gS rfl (gS rfl g0)))))))))))) (gS rfl (gS rfl (gS rfl (gS rfl (gS rfl (gS rfl (gS rfl (gS rfl (gS rfl (gS rfl (gS rfl g0))))))))))) (gS rfl (gS rfl (gS rfl (gS rfl (gS rfl (gS rfl (gS rfl (gS rfl (gS rfl (gS rfl g0)))))))))) (gS rfl (gS rfl (gS rfl (gS rfl (gS rfl (gS rfl (gS rfl (gS rfl (gS rfl g0))))))))) (gS rfl (gS rfl (gS rfl (gS rfl (gS rfl (gS rfl (gS rfl (gS rfl g0)))))))) (fun g => ?_)
                                refine c_seq (fun K39 hK39 => ?_)
                                exact (by
                                  refine c_region ?_
                                  refine l_step (y_moveV (et (gS rfl (gS rfl (gS rfl (gS rfl g0)))) rfl)) ?_
                                  refine l_step (y_loadB agg_65 sz_65 (et (gS rfl (gS rfl (gS rfl g0))) rfl) rfl (at1B k5)) ?_
                                  refine l_step (y_nil (et (gS rfl g0) rfl)) ?_
                                  refine l_step (y_fld fld_75_8 (et g0 rfl)) ?_
                                  refine l_effN (e_store sz_65 (et g0 rfl) (cellsV (et (gS rfl (gS rfl g0)) rfl) rfl) rfl (by exact one_uL _) hX.vl.kC (by rw [hX.vl.size]; omega)) (fun v40 w40 h40 => ?_)
                                  obtain ⟨rfl, x40⟩ := h40
                                  have hv40 := hX.st x40 (by decide) (Nat.le_of_ble_eq_true rfl)
                                  replace G := G.chs x40.ch (by intro b hb; exact .inl trivial) (by intro q hq hh; have h9 := hX.vl.kept q hh; rw [hq] at h9; omega)
                                  replace hF := G.fz
                                  replace k2 := k2.ch x40.ch (by intro hm; first | omega | (subst hm; omega))
                                  replace k5 := k5.ch x40.ch (by intro hm; first | omega | (subst hm; omega))
                                  replace k17 := k17.ch x40.ch (by intro hm; first | omega | (subst hm; omega))
                                  replace hX := hv40
                                  replace U := U.cc x40.ch (by intro b hb; exact .inl trivial)
                                  replace hL := (show LO _ _ bc ⟨s.ret, s.env, s.origin, priceN s T, s.phase, s.status, s.applied + 1, T.gas, some (T.gas - intrN T), some (T.gas * priceN s T), 0⟩ from hL.stPr (priceN s T))
                                  refine l_nil ?_
                                  refine hK39 _ _ ?_
                                  refine fg4 0 3 10 11 (gS rfl (gS rfl (gS rfl (gS rfl (gS rfl (gS rfl (gS rfl (gS rfl g0)))))))) (gS rfl (gS rfl (gS rfl (gS rfl (gS rfl (gS rfl (gS rfl g0))))))) (gS rfl (gS rfl (gS rfl (gS rfl (gS rfl g0))))) (gS rfl (gS rfl (gS rfl (gS rfl g0)))) (fun g => ?_)
                                  refine c_seq (fun K41 hK41 => ?_)
                                  exact (by
                                    refine c_region ?_
                                    refine l_step (y_moveV (et (gS rfl (gS rfl (gS rfl g0))) rfl)) ?_
                                    refine l_step (y_fld fld_41_0 (et (gS rfl (gS rfl (gS rfl g0))) rfl)) ?_
                                    refine l_step (y_loadR agg_25 sz_25 (et g0 rfl) (by rw [length_bL, length_be]) (at1R (k2.row rT1))) ?_
                                    refine l_step (y_nil (et (gS rfl (gS rfl g0)) rfl)) ?_
                                    refine l_step (y_fld fld_75_7 (et g0 rfl)) ?_
                                    refine l_effN (e_store sz_25 (et g0 rfl) (cellsV (et (gS rfl (gS rfl g0)) rfl) rfl) (by rw [length_bL, length_be]) (by exact one_bL _) hX.vl.kC (by rw [hX.vl.size]; omega)) (fun v42 w42 h42 => ?_)
                                    obtain ⟨rfl, x42⟩ := h42
                                    have hv42 := hX.st x42 (by decide) (by rw [length_bL, length_be]; decide)
                                    replace G := G.chs x42.ch (by intro b hb; exact .inl trivial) (by intro q hq hh; have h9 := hX.vl.kept q hh; rw [hq] at h9; omega)
                                    replace hF := G.fz
                                    replace k2 := k2.ch x42.ch (by intro hm; first | omega | (subst hm; omega))
                                    replace k5 := k5.ch x42.ch (by intro hm; first | omega | (subst hm; omega))
                                    replace k17 := k17.ch x42.ch (by intro hm; first | omega | (subst hm; omega))
                                    replace hX := hv42
                                    replace U := U.cc x42.ch (by intro b hb; exact .inl trivial)
                                    replace hL := (show LO _ _ bc ⟨s.ret, s.env, T.frm, priceN s T, s.phase, s.status, s.applied + 1, T.gas, some (T.gas - intrN T), some (T.gas * priceN s T), 0⟩ from hL.stOg T.frm)
                                    refine l_nil ?_
                                    refine hK41 _ _ ?_
                                    refine fg4 0 3 10 11 (gS rfl (gS rfl (gS rfl (gS rfl (gS rfl (gS rfl (gS rfl (gS rfl g0)))))))) (gS rfl (gS rfl (gS rfl (gS rfl (gS rfl (gS rfl (gS rfl g0))))))) (gS rfl (gS rfl (gS rfl (gS rfl (gS rfl (gS rfl g0)))))) (gS rfl (gS rfl (gS rfl (gS rfl (gS rfl g0))))) (fun g => ?_)
                                    refine c_seq (fun K43 hK43 => ?_)
                                    exact (by
                                      refine c_region ?_
                                      refine l_step (y_moveV (et (gS rfl (gS rfl (gS rfl g0))) rfl)) ?_
                                      refine l_step (y_nil (et g0 rfl)) ?_
                                      refine l_step (y_fld fld_75_5 (et g0 rfl)) ?_
                                      refine l_effN (e_store sz_38 (et g0 rfl) (cellsV rfl rfl) rfl (by intro v hv; simp at hv; subst hv; rfl) hX.vl.kC (by rw [hX.vl.size]; omega)) (fun v44 w44 h44 => ?_)
                                      obtain ⟨rfl, x44⟩ := h44
                                      have hv44 := hX.st x44 (by decide) (Nat.le_of_ble_eq_true rfl)
                                      replace G := G.chs x44.ch (by intro b hb; exact .inl trivial) (by intro q hq hh; have h9 := hX.vl.kept q hh; rw [hq] at h9; omega)
                                      replace hF := G.fz
                                      replace k2 := k2.ch x44.ch (by intro hm; first | omega | (subst hm; omega))
                                      replace k5 := k5.ch x44.ch (by intro hm; first | omega | (subst hm; omega))
                                      replace k17 := k17.ch x44.ch (by intro hm; first | omega | (subst hm; omega))
                                      replace hX := hv44
                                      replace U := U.cc x44.ch (by intro b hb; exact .inl trivial)
                                      replace hL := (show LO _ _ bc ⟨[], s.env, T.frm, priceN s T, s.phase, s.status, s.applied + 1, T.gas, some (T.gas - intrN T), some (T.gas * priceN s T), 0⟩ from hL.stRt (l := []) (BV.nil _))
                                      refine l_nil ?_
                                      refine hK43 _ _ ?_
                                      refine fg4 0 3 10 11 (gS rfl (gS rfl (gS rfl (gS rfl (gS rfl (gS rfl g0)))))) (gS rfl (gS rfl (gS rfl (gS rfl (gS rfl g0))))) (gS rfl (gS rfl (gS rfl (gS rfl g0)))) (gS rfl (gS rfl (gS rfl g0))) (fun g => ?_)
                                      refine c_seq (fun K45 hK45 => ?_)
                                      exact (by
                                        refine c_draw Up 9 [(0, true), (1, true), (2, true), (3, true), (4, true), (5, true), (6, true), (7, true), (8, true), (9, false)] (by kernel_rfl) (fun w46 hu => ⟨Up.refl _, ?_⟩)
                                        replace G := G.tr (Go.ofUp hF hu)
                                        replace hF := hF.up hu
                                        replace k2 := k2.up hu
                                        replace k5 := k5.up hu
                                        replace k17 := k17.up hu
                                        replace hX := hX.up hu
                                        replace U := U.tr hu
                                        have SU := Up.refl w46
                                        refine p_step (by exact rfl) (y_moveV (et (gS rfl (gS rfl (gS rfl g0))) rfl)) ?_
                                        refine p_step (by exact rfl) (y_nil (et g0 rfl)) ?_
                                        refine p_step (by exact rfl) (y_fld fld_75_0 (et g0 rfl)) ?_
                                        refine p_step (by exact rfl) (y_load1 one_59 (et g0 rfl) (atS (hX.vl.c1 hL.pS rfl))) ?_
                                        refine p_step (by exact rfl) (y_fld fld_41_0 (et (gS rfl (gS rfl (gS rfl (gS rfl (gS rfl (gS rfl g0)))))) rfl)) ?_
                                        refine p_step (by exact rfl) (y_loadR agg_25 sz_25 (et g0 rfl) (by rw [length_bL, length_be]) (atSR (k2.row rT1))) ?_
                                        refine p_step (by exact rfl) (y_fld fld_41_3 (et (gS rfl (gS rfl (gS rfl (gS rfl (gS rfl (gS rfl (gS rfl (gS rfl g0)))))))) rfl)) ?_
                                        refine p_step (by exact rfl) (y_load1 one_26 (et g0 rfl) (atS (k2.cell (rT3 1 _ rfl)))) ?_
                                        refine p_step (by exact rfl) (y_add (et g0 rfl) rfl (wrapU_addN (b := 1) uk64 ?_)) ?_
                                        omega
                                        refine p_eff (by exact rfl) (e_callV cal_96 (aC (et (gS rfl (gS rfl (gS rfl (gS rfl (gS rfl g0))))) rfl) (aC (et (gS rfl (gS rfl (gS rfl g0))) rfl) (aC (et g0 rfl) aN))) (v_putNonce hX.vl hX.ok T.frm tok.frm (T.nonce + 1) (by omega) 1 (.inr ⟨by omega, rfl⟩) (by omega))) (fun v47 w47 h47 => ?_)
                                        obtain ⟨rfl, cl47, cs47, V47, t47, ok47, js47⟩ := h47
                                        have nc2 := (t47.col b2 k2.lt).trans nc2
                                        have nc5 := (t47.col b5 k5.lt).trans nc5
                                        have nc17 := (t47.col b17 k17.lt).trans nc17
                                        replace G := G.chs t47.go.ch (by intro b hb; exact .inl trivial) (by intro q hq hh; have h9 := hX.vl.kept q hh; (have e0 := hq); omega)
                                        replace hF := G.fz
                                        replace k2 := k2.ch t47.go.ch (by intro hm; (have e0 := hm); omega)
                                        replace k5 := k5.ch t47.go.ch (by intro hm; (have e0 := hm); omega)
                                        replace k17 := k17.ch t47.go.ch (by intro hm; (have e0 := hm); omega)
                                        replace hX := hX.vt t47 ok47
                                        replace U := U.cc t47.go.ch (by intro b hb; exact .inl trivial)
                                        replace hL := hL.out t47.out (.inl (by decide))
                                        replace hva : VA V47 (absY { s.now with accts := bA1 s T }) [] (slF s.now.accts) := by
                                          have h9 := js47.va hva
                                          have e9 : absY { s.now with accts := bA1 s T } = _ := ay_nonce s.now T.frm ((bSnd s T).nonce + 1)
                                          rw [e9, ← vd.non]; exact h9
                                        have hhf : hasA V47 T.frm := has_nonce (by rw [hva.abs]; show (acctAt (bA1 s T) T.frm).nonce ≠ 0; rw [bA1_non]; exact Nat.succ_ne_zero _)
                                        have hcC := hX.vl.colC
                                        have hna47 := js47.na
                                        have hnj47 := js47.nj
                                        have hns47 := js47.ns
                                        have hnt47 := js47.nt
                                        have hmr47 := js47.mr
                                        refine ⟨.inl rfl, ?_⟩
                                        refine p_nil ?_
                                        refine hK45 _ _ ?_
                                        refine fg4 0 3 10 11 (gS rfl (gS rfl (gS rfl (gS rfl (gS rfl (gS rfl (gS rfl (gS rfl (gS rfl (gS rfl (gS rfl (gS rfl (gS rfl g0))))))))))))) (gS rfl (gS rfl (gS rfl (gS rfl (gS rfl (gS rfl (gS rfl (gS rfl (gS rfl (gS rfl (gS rfl (gS rfl g0)))))))))))) (gS rfl (gS rfl (gS rfl (gS rfl (gS rfl (gS rfl (gS rfl (gS rfl (gS rfl (gS rfl (gS rfl g0))))))))))) (gS rfl (gS rfl (gS rfl (gS rfl (gS rfl (gS rfl (gS rfl (gS rfl (gS rfl (gS rfl g0)))))))))) (fun g => ?_)
                                        refine c_seq (fun K48 hK48 => ?_)
                                        exact (by
                                          refine c_draw Up 18 [(0, true), (1, true), (2, true), (3, true), (4, true), (5, true), (6, true), (7, true), (8, true), (9, true), (10, true), (11, true), (13, true), (14, true), (15, true), (16, true), (12, false), (17, false), (18, false)] (by kernel_rfl) (fun w49 hu => ⟨Up.refl _, ?_⟩)
                                          replace G := G.tr (Go.ofUp hF hu)
                                          replace hF := hF.up hu
                                          replace k2 := k2.up hu
                                          replace k5 := k5.up hu
                                          replace k17 := k17.up hu
                                          replace hX := hX.up hu
                                          replace U := U.tr hu
                                          have SU := Up.refl w49
                                          refine p_step (by exact rfl) (y_moveV (et (gS rfl (gS rfl (gS rfl g0))) rfl)) ?_
                                          refine p_step (by exact rfl) (y_nil (et g0 rfl)) ?_
                                          refine p_step (by exact rfl) (y_fld fld_75_0 (et g0 rfl)) ?_
                                          refine p_step (by exact rfl) (y_load1 one_59 (et g0 rfl) (atS (hX.vl.c1 hL.pS rfl))) ?_
                                          refine p_step (by exact rfl) (y_fld fld_41_0 (et (gS rfl (gS rfl (gS rfl (gS rfl (gS rfl (gS rfl g0)))))) rfl)) ?_
                                          refine p_step (by exact rfl) (y_loadR agg_25 sz_25 (et g0 rfl) (by rw [length_bL, length_be]) (atSR (k2.row rT1))) ?_
                                          refine p_step (by exact rfl) (y_moveV (et (gS rfl (gS rfl (gS rfl (gS rfl (gS rfl (gS rfl (gS rfl (gS rfl (gS rfl g0))))))))) rfl)) ?_
                                          refine p_step (by exact rfl) (y_nil (et g0 rfl)) ?_
                                          refine p_step (by exact rfl) (y_fld fld_75_0 (et g0 rfl)) ?_
                                          refine p_step (by exact rfl) (y_load1 one_59 (et g0 rfl) (atS (hX.vl.c1 hL.pS rfl))) ?_
                                          refine p_step (by exact rfl) (y_fld fld_41_0 (et (gS rfl (gS rfl (gS rfl (gS rfl (gS rfl (gS rfl (gS rfl (gS rfl (gS rfl (gS rfl (gS rfl (gS rfl g0)))))))))))) rfl)) ?_
                                          refine p_step (by exact rfl) (y_loadR agg_25 sz_25 (et g0 rfl) (by rw [length_bL, length_be]) (atSR (k2.row rT1))) ?_
                                          refine p_step (by exact rfl) (y_moveV (et (gS rfl (gS rfl (gS rfl (gS rfl (gS rfl (gS rfl (gS rfl (gS rfl (gS rfl (gS rfl (gS rfl (gS rfl (gS rfl (gS rfl (gS rfl g0))))))))))))))) rfl)) ?_
                                          refine p_step (by exact rfl) (y_nil (et g0 rfl)) ?_
                                          refine p_step (by exact rfl) (y_fld fld_75_14 (et g0 rfl)) ?_
                                          refine p_step (by exact rfl) (y_loadR agg_65 sz_65 (et g0 rfl) rfl (atSR (hX.vl.kC.rowO (show RowIn _ 2409 (wL (T.gas * priceN s T)) from hL.hld _ rfl) rfl))) ?_
                                          have hb1 : (absV V47).bal T.frm = (bSnd s T).bal := by rw [hva.abs]; exact bal_non s.now.accts T.frm _ T.frm
                                          refine p_eff (by exact rfl) (e_callV cal_99 (aC (et (gS rfl (gS rfl (gS rfl (gS rfl (gS rfl (gS rfl g0)))))) rfl) (aC (et (gS rfl (gS rfl (gS rfl (gS rfl g0)))) rfl) aN)) (hb1 ▸ v_balance hX.vl hX.ok T.frm tok.frm)) (fun v50 w50 h50 => ?_)
                                          obtain ⟨rfl, u50⟩ := h50
                                          replace G := G.tr (Go.ofUp hF u50)
                                          replace hF := hF.up u50
                                          replace k2 := k2.up u50
                                          replace k5 := k5.up u50
                                          replace k17 := k17.up u50
                                          replace hX := hX.up u50
                                          replace U := U.tr u50
                                          refine ⟨.inr (SU.tr u50), ?_⟩
                                          replace SU := SU.tr u50
                                          exact (by
                                            refine p_eff (by exact rfl) (e_callV cal_98 (aC (et g0 rfl) (aC (et (gS rfl g0) rfl) aN)) (sub_ok _ _ _ hbW (by omega))) (fun v51 w51 h51 => ?_)
                                            obtain ⟨rfl, u51⟩ := h51
                                            replace G := G.tr (Go.ofUp hF u51)
                                            replace hF := hF.up u51
                                            replace k2 := k2.up u51
                                            replace k5 := k5.up u51
                                            replace k17 := k17.up u51
                                            replace hX := hX.up u51
                                            replace U := U.tr u51
                                            refine ⟨.inr (SU.tr u51), ?_⟩
                                            replace SU := SU.tr u51
                                            refine p_eff (by exact rfl) (e_callV cal_97 (aC (et (gS rfl (gS rfl (gS rfl (gS rfl (gS rfl (gS rfl (gS rfl (gS rfl (gS rfl (gS rfl (gS rfl (gS rfl (gS rfl (gS rfl g0)))))))))))))) rfl) (aC (et (gS rfl (gS rfl (gS rfl (gS rfl (gS rfl (gS rfl (gS rfl (gS rfl (gS rfl (gS rfl (gS rfl (gS rfl g0)))))))))))) rfl) (aC (et g0 rfl) aN))) (v_putBalance hX.vl hX.ok T.frm tok.frm ((bSnd s T).bal - T.gas * priceN s T) (by omega) 0 (.inl ⟨hhf, rfl⟩) (by omega))) (fun v52 w52 h52 => ?_)
                                            obtain ⟨rfl, cl52, cs52, V52, t52, ok52, js52⟩ := h52
                                            have nc2 := (t52.col b2 k2.lt).trans nc2
                                            have nc5 := (t52.col b5 k5.lt).trans nc5
                                            have nc17 := (t52.col b17 k17.lt).trans nc17
                                            replace G := G.chs t52.go.ch (by intro b hb; exact .inl trivial) (by intro q hq hh; have h9 := hX.vl.kept q hh; (have e0 := hq); omega)
                                            replace hF := G.fz
                                            replace k2 := k2.ch t52.go.ch (by intro hm; (have e0 := hm); omega)
                                            replace k5 := k5.ch t52.go.ch (by intro hm; (have e0 := hm); omega)
                                            replace k17 := k17.ch t52.go.ch (by intro hm; (have e0 := hm); omega)
                                            replace hX := hX.vt t52 ok52
                                            replace U := U.cc t52.go.ch (by intro b hb; exact .inl trivial)
                                            replace hL := hL.out t52.out (.inl (by decide))
                                            replace hva : VA V52 (absY { s.now with accts := bA2 s T }) [] (slF s.now.accts) := by
                                              have h9 := js52.va hva
                                              have e9 : absY { s.now with accts := bA2 s T } = _ := ay_bal { s.now with accts := bA1 s T } T.frm ((bSnd s T).bal - T.gas * priceN s T)
                                              rw [e9]; exact h9
                                            replace hhf := js52.ha _ hhf
                                            have hcC := hX.vl.colC
                                            have hna52 := js52.na
                                            have hnj52 := js52.nj
                                            have hns52 := js52.ns
                                            have hnt52 := js52.nt
                                            have hmr52 := js52.mr
                                            refine ⟨.inl rfl, ?_⟩
                                            refine p_nil ?_
                                            refine hK48 _ _ ?_
                                            refine fg4 0 3 10 11 (gS rfl (gS rfl (gS rfl (gS rfl (gS rfl (gS rfl (gS rfl (gS rfl (gS rfl (gS rfl (gS rfl (gS rfl (gS rfl (gS rfl (gS rfl (gS rfl (gS rfl (gS rfl (gS rfl (gS rfl (gS rfl (gS rfl g0)))))))))))))))))))))) (gS rfl (gS rfl (gS rfl (gS rfl (gS rfl (gS rfl (gS rfl (gS rfl (gS rfl (gS rfl (gS rfl (gS rfl (gS rfl (gS rfl (gS rfl (gS rfl (gS rfl (gS rfl (gS rfl (gS rfl (gS rfl g0))))))))))))))))))))) (gS rfl (gS rfl (gS rfl (gS rfl (gS rfl (gS rfl (gS rfl (gS rfl (gS rfl (gS rfl (gS rfl (gS rfl (gS rfl (gS rfl (gS rfl (gS rfl (gS rfl (gS rfl (gS rfl (gS rfl g0)))))))))))))))))))) (gS rfl (gS rfl (gS rfl (gS rfl (gS rfl (gS rfl (gS rfl (gS rfl (gS rfl (gS rfl (gS rfl (gS rfl (gS rfl (gS rfl (gS rfl (gS rfl (gS rfl (gS rfl (gS rfl g0))))))))))))))))))) (fun g => ?_)
                                            refine c_seq (fun K53 hK53 => ?_)
                                            exact (by
                                              refine c_draw Up 6 [(0, true), (1, true), (2, true), (3, true), (4, true), (5, true), (6, false)] (by kernel_rfl) (fun w54 hu => ⟨Up.refl _, ?_⟩)
                                              replace G := G.tr (Go.ofUp hF hu)
                                              replace hF := hF.up hu
                                              replace k2 := k2.up hu
                                              replace k5 := k5.up hu
                                              replace k17 := k17.up hu
                                              replace hX := hX.up hu
                                              replace U := U.tr hu
                                              have SU := Up.refl w54
                                              refine p_step (by exact rfl) (y_moveV (et (gS rfl (gS rfl (gS rfl g0))) rfl)) ?_
                                              refine p_step (by exact rfl) (y_nil (et g0 rfl)) ?_
                                              refine p_step (by exact rfl) (y_fld fld_75_0 (et g0 rfl)) ?_
                                              refine p_step (by exact rfl) (y_load1 one_59 (et g0 rfl) (atS (hX.vl.c1 hL.pS rfl))) ?_
                                              refine p_step (by exact rfl) (y_fld fld_41_0 (et (gS rfl (gS rfl (gS rfl (gS rfl (gS rfl (gS rfl g0)))))) rfl)) ?_
                                              refine p_step (by exact rfl) (y_loadR agg_25 sz_25 (et g0 rfl) (by rw [length_bL, length_be]) (atSR (k2.row rT1))) ?_
                                              refine p_eff (by exact rfl) (e_callV cal_100 (aC (et (gS rfl (gS rfl g0)) rfl) (aC (et g0 rfl) aN)) (e_warm hX.vl hX.ok T.frm tok.frm (by omega) (by omega))) (fun v55 w55 h55 => ?_)
                                              obtain ⟨rfl, cl55, cs55, V55, t55, ok55, js55⟩ := h55
                                              have nc2 := (t55.col b2 k2.lt).trans nc2
                                              have nc5 := (t55.col b5 k5.lt).trans nc5
                                              have nc17 := (t55.col b17 k17.lt).trans nc17
                                              replace G := G.chs t55.go.ch (by intro b hb; exact .inl trivial) (by intro q hq hh; have h9 := hX.vl.kept q hh; (have e0 := hq); omega)
                                              replace hF := G.fz
                                              replace k2 := k2.ch t55.go.ch (by intro hm; (have e0 := hm); omega)
                                              replace k5 := k5.ch t55.go.ch (by intro hm; (have e0 := hm); omega)
                                              replace k17 := k17.ch t55.go.ch (by intro hm; (have e0 := hm); omega)
                                              replace hX := hX.vt t55 ok55
                                              replace U := U.cc t55.go.ch (by intro b hb; exact .inl trivial)
                                              replace hL := hL.out t55.out (.inl (by decide))
                                              replace hva : VA V55 (absY (wrmY { s.now with accts := bA2 s T } T.frm)) [] (slF s.now.accts) := by
                                                have h9 := js55.va hva
                                                have e9 : absY (wrmY { s.now with accts := bA2 s T } T.frm) = _ := ay_warmA { s.now with accts := bA2 s T } T.frm
                                                rw [e9]; exact h9
                                              replace hhf := js55.ha _ hhf
                                              have hcC := hX.vl.colC
                                              have hna55 := js55.na
                                              have hnj55 := js55.nj
                                              have hns55 := js55.ns
                                              have hnt55 := js55.nt
                                              have hmr55 := js55.mr
                                              refine ⟨.inl rfl, ?_⟩
                                              refine p_nil ?_
                                              refine hK53 _ _ ?_
                                              refine fg4 0 3 10 11 (gS rfl (gS rfl (gS rfl (gS rfl (gS rfl (gS rfl (gS rfl (gS rfl (gS rfl (gS rfl g0)))))))))) (gS rfl (gS rfl (gS rfl (gS rfl (gS rfl (gS rfl (gS rfl (gS rfl (gS rfl g0))))))))) (gS rfl (gS rfl (gS rfl (gS rfl (gS rfl (gS rfl (gS rfl (gS rfl g0)))))))) (gS rfl (gS rfl (gS rfl (gS rfl (gS rfl (gS rfl (gS rfl g0))))))) (fun g => ?_)
                                              refine c_seq (fun K56 hK56 => ?_)
                                              exact (by
                                                refine c_draw Up 9 [(0, true), (1, true), (2, true), (3, true), (4, true), (5, true), (6, true), (7, true), (8, true), (9, false)] (by kernel_rfl) (fun w57 hu => ⟨Up.refl _, ?_⟩)
                                                replace G := G.tr (Go.ofUp hF hu)
                                                replace hF := hF.up hu
                                                replace k2 := k2.up hu
                                                replace k5 := k5.up hu
                                                replace k17 := k17.up hu
                                                replace hX := hX.up hu
                                                replace U := U.tr hu
                                                have SU := Up.refl w57
                                                refine p_step (by exact rfl) (y_moveV (et (gS rfl (gS rfl (gS rfl g0))) rfl)) ?_
                                                refine p_step (by exact rfl) (y_nil (et g0 rfl)) ?_
                                                refine p_step (by exact rfl) (y_fld fld_75_0 (et g0 rfl)) ?_
                                                refine p_step (by exact rfl) (y_load1 one_59 (et g0 rfl) (atS (hX.vl.c1 hL.pS rfl))) ?_
                                                refine p_step (by exact rfl) (y_moveV (et (gS rfl (gS rfl (gS rfl (gS rfl (gS rfl (gS rfl (gS rfl g0))))))) rfl)) ?_
                                                refine p_step (by exact rfl) (y_nil (et g0 rfl)) ?_
                                                refine p_step (by exact rfl) (y_fld fld_75_6 (et g0 rfl)) ?_
                                                refine p_step (by exact rfl) (y_fld fld_31_0 (et g0 rfl)) ?_
                                                obtain ⟨eha2, ehc2, hCo, eNu2, eRa2, eCh2, eBf2, eHs2, eHv2⟩ := (show EC _ _ 2260 s.env from hL.env).ex
                                                refine p_step (by exact rfl) (y_loadR agg_25 sz_25 (et g0 rfl) (by rw [length_bL, length_be]) (atSR (hX.vl.kC.rowO hCo rfl))) ?_
                                                refine p_eff (by exact rfl) (e_callV cal_100 (aC (et (gS rfl (gS rfl (gS rfl (gS rfl (gS rfl g0))))) rfl) (aC (et g0 rfl) aN)) (e_warm hX.vl hX.ok s.env.coinbase eo.coinbase (by omega) (by omega))) (fun v58 w58 h58 => ?_)
                                                obtain ⟨rfl, cl58, cs58, V58, t58, ok58, js58⟩ := h58
                                                have nc2 := (t58.col b2 k2.lt).trans nc2
                                                have nc5 := (t58.col b5 k5.lt).trans nc5
                                                have nc17 := (t58.col b17 k17.lt).trans nc17
                                                replace G := G.chs t58.go.ch (by intro b hb; exact .inl trivial) (by intro q hq hh; have h9 := hX.vl.kept q hh; (have e0 := hq); omega)
                                                replace hF := G.fz
                                                replace k2 := k2.ch t58.go.ch (by intro hm; (have e0 := hm); omega)
                                                replace k5 := k5.ch t58.go.ch (by intro hm; (have e0 := hm); omega)
                                                replace k17 := k17.ch t58.go.ch (by intro hm; (have e0 := hm); omega)
                                                replace hX := hX.vt t58 ok58
                                                replace U := U.cc t58.go.ch (by intro b hb; exact .inl trivial)
                                                replace hL := hL.out t58.out (.inl (by decide))
                                                have hhc := wrm_has js58 hva
                                                replace hva : VA V58 (absY (wrmY (wrmY { s.now with accts := bA2 s T } T.frm) s.env.coinbase)) [] (slF s.now.accts) := by
                                                  have h9 := js58.va hva
                                                  have e9 : absY (wrmY (wrmY { s.now with accts := bA2 s T } T.frm) s.env.coinbase) = _ := ay_warmA (wrmY { s.now with accts := bA2 s T } T.frm) s.env.coinbase
                                                  rw [e9]; exact h9
                                                replace hhf := js58.ha _ hhf
                                                have hcC := hX.vl.colC
                                                have hna58 := js58.na
                                                have hnj58 := js58.nj
                                                have hns58 := js58.ns
                                                have hnt58 := js58.nt
                                                have hmr58 := js58.mr
                                                refine ⟨.inl rfl, ?_⟩
                                                refine p_nil ?_
                                                refine hK56 _ _ ?_
                                                refine fg4 0 3 10 11 (gS rfl (gS rfl (gS rfl (gS rfl (gS rfl (gS rfl (gS rfl (gS rfl (gS rfl (gS rfl (gS rfl (gS rfl (gS rfl g0))))))))))))) (gS rfl (gS rfl (gS rfl (gS rfl (gS rfl (gS rfl (gS rfl (gS rfl (gS rfl (gS rfl (gS rfl (gS rfl g0)))))))))))) (gS rfl (gS rfl (gS rfl (gS rfl (gS rfl (gS rfl (gS rfl (gS rfl (gS rfl (gS rfl (gS rfl g0))))))))))) (gS rfl (gS rfl (gS rfl (gS rfl (gS rfl (gS rfl (gS rfl (gS rfl (gS rfl (gS rfl g0)))))))))) (fun g => ?_)
                                                refine c_seq (fun K59 hK59 => ?_)
                                                exact (by
                                                  refine c_draw Up 5 [(0, true), (1, true), (2, true), (3, true), (4, true), (5, false)] (by kernel_rfl) (fun w60 hu => ⟨Up.refl _, ?_⟩)
                                                  replace G := G.tr (Go.ofUp hF hu)
                                                  replace hF := hF.up hu
                                                  replace k2 := k2.up hu
                                                  replace k5 := k5.up hu
                                                  replace k17 := k17.up hu
                                                  replace hX := hX.up hu
                                                  replace U := U.tr hu
                                                  have SU := Up.refl w60
                                                  refine p_step (by exact rfl) (y_moveV (et (gS rfl (gS rfl (gS rfl g0))) rfl)) ?_
                                                  refine p_step (by exact rfl) (y_nil (et g0 rfl)) ?_
                                                  refine p_step (by exact rfl) (y_fld fld_75_0 (et g0 rfl)) ?_
                                                  refine p_step (by exact rfl) (y_load1 one_59 (et g0 rfl) (atS (hX.vl.c1 hL.pS rfl))) ?_
                                                  refine p_step (by exact rfl) (y_loadB agg_25 sz_25 (et (gS rfl (gS rfl (gS rfl (gS rfl g0)))) rfl) (by rw [List.size_toArray, length_bL, length_be]) (atSB k17)) ?_
                                                  refine p_eff (by exact rfl) (e_callV cal_100 (aC (et (gS rfl g0) rfl) (aC (et g0 rfl) aN)) (e_warm hX.vl hX.ok T.to tok.to (by omega) (by omega))) (fun v61 w61 h61 => ?_)
                                                  obtain ⟨rfl, cl61, cs61, V61, t61, ok61, js61⟩ := h61
                                                  have nc2 := (t61.col b2 k2.lt).trans nc2
                                                  have nc5 := (t61.col b5 k5.lt).trans nc5
                                                  have nc17 := (t61.col b17 k17.lt).trans nc17
                                                  replace G := G.chs t61.go.ch (by intro b hb; exact .inl trivial) (by intro q hq hh; have h9 := hX.vl.kept q hh; (have e0 := hq); omega)
                                                  replace hF := G.fz
                                                  replace k2 := k2.ch t61.go.ch (by intro hm; (have e0 := hm); omega)
                                                  replace k5 := k5.ch t61.go.ch (by intro hm; (have e0 := hm); omega)
                                                  replace k17 := k17.ch t61.go.ch (by intro hm; (have e0 := hm); omega)
                                                  replace hX := hX.vt t61 ok61
                                                  replace U := U.cc t61.go.ch (by intro b hb; exact .inl trivial)
                                                  replace hL := hL.out t61.out (.inl (by decide))
                                                  have hht := wrm_has js61 hva
                                                  replace hva : VA V61 (absY (wrmY (wrmY (wrmY { s.now with accts := bA2 s T } T.frm) s.env.coinbase) T.to)) [] (slF s.now.accts) := by
                                                    have h9 := js61.va hva
                                                    have e9 : absY (wrmY (wrmY (wrmY { s.now with accts := bA2 s T } T.frm) s.env.coinbase) T.to) = _ := ay_warmA (wrmY (wrmY { s.now with accts := bA2 s T } T.frm) s.env.coinbase) T.to
                                                    rw [e9]; exact h9
                                                  replace hhf := js61.ha _ hhf
                                                  replace hhc := js61.ha _ hhc
                                                  have hcC := hX.vl.colC
                                                  have hna61 := js61.na
                                                  have hnj61 := js61.nj
                                                  have hns61 := js61.ns
                                                  have hnt61 := js61.nt
                                                  have hmr61 := js61.mr
                                                  refine ⟨.inl rfl, ?_⟩
                                                  refine p_nil ?_
                                                  refine hK59 _ _ ?_
                                                  refine fg4 0 3 10 11 (gS rfl (gS rfl (gS rfl (gS rfl (gS rfl (gS rfl (gS rfl (gS rfl (gS rfl g0))))))))) (gS rfl (gS rfl (gS rfl (gS rfl (gS rfl (gS rfl (gS rfl (gS rfl g0)))))))) (gS rfl (gS rfl (gS rfl (gS rfl (gS rfl (gS rfl (gS rfl g0))))))) (gS rfl (gS rfl (gS rfl (gS rfl (gS rfl (gS rfl g0)))))) (fun g => ?_)
                                                  refine c_seq (fun K62 hK62 => ?_)
                                                  exact (by
                                                    refine c_region ?_
                                                    refine l_step (y_moveV (et (gS rfl (gS rfl (gS rfl g0))) rfl)) ?_
                                                    refine l_step (y_nil (et g0 rfl)) ?_
                                                    refine l_step (y_fld fld_75_0 (et g0 rfl)) ?_
                                                    refine l_step (y_load1 one_59 (et g0 rfl) (at1 (hX.vl.c1 hL.pS rfl))) ?_
                                                    refine l_step (y_bld (bC rfl bN) bld25_4) ?_
                                                    refine l_eff (e_callV cal_100 (aC (et (gS rfl g0) rfl) (aC (et g0 rfl) aN)) (e_warm hX.vl hX.ok 4 (by decide) (by omega) (by omega))) (fun v63 w63 h63 => ?_)
                                                    obtain ⟨rfl, cl63, cs63, V63, t63, ok63, js63⟩ := h63
                                                    have nc2 := (t63.col b2 k2.lt).trans nc2
                                                    have nc5 := (t63.col b5 k5.lt).trans nc5
                                                    have nc17 := (t63.col b17 k17.lt).trans nc17
                                                    replace G := G.chs t63.go.ch (by intro b hb; exact .inl trivial) (by intro q hq hh; have h9 := hX.vl.kept q hh; (have e0 := hq); omega)
                                                    replace hF := G.fz
                                                    replace k2 := k2.ch t63.go.ch (by intro hm; (have e0 := hm); omega)
                                                    replace k5 := k5.ch t63.go.ch (by intro hm; (have e0 := hm); omega)
                                                    replace k17 := k17.ch t63.go.ch (by intro hm; (have e0 := hm); omega)
                                                    replace hX := hX.vt t63 ok63
                                                    replace U := U.cc t63.go.ch (by intro b hb; exact .inl trivial)
                                                    replace hL := hL.out t63.out (.inl (by decide))
                                                    replace hva : VA V63 (absY (wrmY (wrmY (wrmY (wrmY { s.now with accts := bA2 s T } T.frm) s.env.coinbase) T.to) 4)) [] (slF s.now.accts) := by
                                                      have h9 := js63.va hva
                                                      have e9 : absY (wrmY (wrmY (wrmY (wrmY { s.now with accts := bA2 s T } T.frm) s.env.coinbase) T.to) 4) = _ := ay_warmA (wrmY (wrmY (wrmY { s.now with accts := bA2 s T } T.frm) s.env.coinbase) T.to) 4
                                                      rw [e9]; exact h9
                                                    replace hhf := js63.ha _ hhf
                                                    replace hhc := js63.ha _ hhc
                                                    replace hht := js63.ha _ hht
                                                    have hcC := hX.vl.colC
                                                    have hna63 := js63.na
                                                    have hnj63 := js63.nj
                                                    have hns63 := js63.ns
                                                    have hnt63 := js63.nt
                                                    have hmr63 := js63.mr
                                                    refine l_nil ?_
                                                    refine hK62 _ _ ?_
                                                    refine fg4 0 3 10 11 (gS rfl (gS rfl (gS rfl (gS rfl (gS rfl (gS rfl (gS rfl (gS rfl (gS rfl g0))))))))) (gS rfl (gS rfl (gS rfl (gS rfl (gS rfl (gS rfl (gS rfl (gS rfl g0)))))))) (gS rfl (gS rfl (gS rfl (gS rfl (gS rfl (gS rfl (gS rfl g0))))))) (gS rfl (gS rfl (gS rfl (gS rfl (gS rfl (gS rfl g0)))))) (fun g => ?_)
                                                    refine c_seq (fun K64 hK64 => ?_)
                                                    exact (by
                                                      refine c_region ?_
                                                      refine l_step (y_moveV (et (gS rfl (gS rfl (gS rfl g0))) rfl)) ?_
                                                      refine l_step (y_nil (et g0 rfl)) ?_
                                                      refine l_step (y_fld fld_75_0 (et g0 rfl)) ?_
                                                      refine l_step (y_load1 one_59 (et g0 rfl) (at1 (hX.vl.c1 hL.pS rfl))) ?_
                                                      refine l_step (y_bld (bC rfl bN) bld25_5) ?_
                                                      refine l_eff (e_callV cal_100 (aC (et (gS rfl g0) rfl) (aC (et g0 rfl) aN)) (e_warm hX.vl hX.ok 5 (by decide) (by omega) (by omega))) (fun v65 w65 h65 => ?_)
                                                      obtain ⟨rfl, cl65, cs65, V65, t65, ok65, js65⟩ := h65
                                                      have nc2 := (t65.col b2 k2.lt).trans nc2
                                                      have nc5 := (t65.col b5 k5.lt).trans nc5
                                                      have nc17 := (t65.col b17 k17.lt).trans nc17
                                                      replace G := G.chs t65.go.ch (by intro b hb; exact .inl trivial) (by intro q hq hh; have h9 := hX.vl.kept q hh; (have e0 := hq); omega)
                                                      replace hF := G.fz
                                                      replace k2 := k2.ch t65.go.ch (by intro hm; (have e0 := hm); omega)
                                                      replace k5 := k5.ch t65.go.ch (by intro hm; (have e0 := hm); omega)
                                                      replace k17 := k17.ch t65.go.ch (by intro hm; (have e0 := hm); omega)
                                                      replace hX := hX.vt t65 ok65
                                                      replace U := U.cc t65.go.ch (by intro b hb; exact .inl trivial)
                                                      replace hL := hL.out t65.out (.inl (by decide))
                                                      replace hva : VA V65 (absY (wrmY (wrmY (wrmY (wrmY (wrmY { s.now with accts := bA2 s T } T.frm) s.env.coinbase) T.to) 4) 5)) [] (slF s.now.accts) := by
                                                        have h9 := js65.va hva
                                                        have e9 : absY (wrmY (wrmY (wrmY (wrmY (wrmY { s.now with accts := bA2 s T } T.frm) s.env.coinbase) T.to) 4) 5) = _ := ay_warmA (wrmY (wrmY (wrmY (wrmY { s.now with accts := bA2 s T } T.frm) s.env.coinbase) T.to) 4) 5
                                                        rw [e9]; exact h9
                                                      replace hhf := js65.ha _ hhf
                                                      replace hhc := js65.ha _ hhc
                                                      replace hht := js65.ha _ hht
                                                      have hcC := hX.vl.colC
                                                      have hna65 := js65.na
                                                      have hnj65 := js65.nj
                                                      have hns65 := js65.ns
                                                      have hnt65 := js65.nt
                                                      have hmr65 := js65.mr
                                                      refine l_nil ?_
                                                      refine hK64 _ _ ?_
                                                      refine fg4 0 3 10 11 (gS rfl (gS rfl (gS rfl (gS rfl (gS rfl (gS rfl (gS rfl (gS rfl (gS rfl g0))))))))) (gS rfl (gS rfl (gS rfl (gS rfl (gS rfl (gS rfl (gS rfl (gS rfl g0)))))))) (gS rfl (gS rfl (gS rfl (gS rfl (gS rfl (gS rfl (gS rfl g0))))))) (gS rfl (gS rfl (gS rfl (gS rfl (gS rfl (gS rfl g0)))))) (fun g => ?_)
                                                      refine c_seq (fun K66 hK66 => ?_)
                                                      exact (by
                                                        refine c_draw Up 6 [(0, true), (1, true), (2, true), (3, true), (4, true), (5, true), (6, false)] (by kernel_rfl) (fun w67 hu => ⟨Up.refl _, ?_⟩)
                                                        replace G := G.tr (Go.ofUp hF hu)
                                                        replace hF := hF.up hu
                                                        replace k2 := k2.up hu
                                                        replace k5 := k5.up hu
                                                        replace k17 := k17.up hu
                                                        replace hX := hX.up hu
                                                        replace U := U.tr hu
                                                        have SU := Up.refl w67
                                                        refine p_step (by exact rfl) (y_moveV (et (gS rfl (gS rfl (gS rfl g0))) rfl)) ?_
                                                        refine p_step (by exact rfl) (y_nil (et g0 rfl)) ?_
                                                        refine p_step (by exact rfl) (y_fld fld_75_0 (et g0 rfl)) ?_
                                                        refine p_step (by exact rfl) (y_load1 one_59 (et g0 rfl) (atS (hX.vl.c1 hL.pS rfl))) ?_
                                                        refine p_step (by exact rfl) (y_fld fld_41_11 (et (gS rfl (gS rfl (gS rfl (gS rfl (gS rfl (gS rfl g0)))))) rfl)) ?_
                                                        refine p_step (by exact rfl) (y_load1 one_39 (et g0 rfl) (atS (k2.cell (rT9 0 _ rfl)))) ?_
                                                        refine p_eff (by exact rfl) (e_callV cal_101 (aC (et (gS rfl (gS rfl g0)) rfl) (aC (et g0 rfl) aN)) (e_warmList hX.vl hX.ok (hTa.mono hL0) vd.ls (by omega) (by omega) (by omega) hva)) (fun v68 w68 h68 => ?_)
                                                        obtain ⟨rfl, cl68, cs68, V68, t68, ok68, js68⟩ := h68
                                                        have nc2 := (t68.col b2 k2.lt).trans nc2
                                                        have nc5 := (t68.col b5 k5.lt).trans nc5
                                                        have nc17 := (t68.col b17 k17.lt).trans nc17
                                                        replace G := G.chs t68.go.ch (by intro b hb; exact .inl trivial) (by intro q hq hh; have h9 := hX.vl.kept q hh; (have e0 := hq); omega)
                                                        replace hF := G.fz
                                                        replace k2 := k2.ch t68.go.ch (by intro hm; (have e0 := hm); omega)
                                                        replace k5 := k5.ch t68.go.ch (by intro hm; (have e0 := hm); omega)
                                                        replace k17 := k17.ch t68.go.ch (by intro hm; (have e0 := hm); omega)
                                                        replace hX := hX.vt t68 ok68
                                                        replace U := U.cc t68.go.ch (by intro b hb; exact .inl trivial)
                                                        replace hL := hL.out t68.out (.inl (by decide))
                                                        replace hva : VA V68 (absY (bW s T)) [] (slF s.now.accts) := by
                                                          have h9 := js68.va hva
                                                          have e9 : absY (bW s T) = _ := ay_list T.access (bW3 s T)
                                                          rw [e9]
                                                          unfold bW3
                                                          rw [show bTgt s T = T.to from hTg]
                                                          exact h9
                                                        replace hhf := js68.ha _ hhf
                                                        replace hhc := js68.ha _ hhc
                                                        replace hht := js68.ha _ hht
                                                        have hcC := hX.vl.colC
                                                        have hna68 := js68.na
                                                        have hnj68 := js68.nj
                                                        have hns68 := js68.ns
                                                        have hnt68 := js68.nt
                                                        have hmr68 := js68.mr
                                                        refine ⟨.inl rfl, ?_⟩
                                                        have hmk9 : V68.marks = [] := by rw [hmr68, hmr65, hmr63, hmr61, hmr58, hmr55, hmr52, hmr47]; exact hEI.m
                                                        refine p_nil ?_
                                                        refine hK66 _ _ ?_
                                                        refine fg4 0 3 10 11 (gS rfl (gS rfl (gS rfl (gS rfl (gS rfl (gS rfl (gS rfl (gS rfl (gS rfl (gS rfl g0)))))))))) (gS rfl (gS rfl (gS rfl (gS rfl (gS rfl (gS rfl (gS rfl (gS rfl (gS rfl g0))))))))) (gS rfl (gS rfl (gS rfl (gS rfl (gS rfl (gS rfl (gS rfl (gS rfl g0)))))))) (gS rfl (gS rfl (gS rfl (gS rfl (gS rfl (gS rfl (gS rfl g0))))))) (fun g => ?_)
                                                        refine c_seq (fun K69 hK69 => ?_)
                                                        exact (by
                                                          have hnw1 := hX.vl.new
                                                          refine fgv4 0 3 10 11 (gS rfl (gS rfl (gS rfl g0))) (gS rfl (gS rfl g0)) (gS rfl g0) g0 (fun g z0 z3 z10 z11 e0 e3 e10 e11 => ?_)
                                                          refine c_drawJ (fun s_ w_ => ∃ (g : Nat → Value) (b71 : Nat), s_ = (upd (upd (upd (upd (upd g 0 z0) 3 z3) 10 z10) 11 z11) 12 (.pointer (some ⟨b71, 0, none⟩))) ∧ Ch (fun _ => False) w68 w_ ∧ w68.heap.size ≤ b71 ∧ Blk w_ b71 ((fcv (cFr 0 false T.value T.to T.frm (T.gas - intrN T) 0 [] []) (.slice none 0 0) (.slice none 0 0) 0 0 0 (List.replicate 8 0)).toArray)) Up 12 (.pure 0 (.pure 1 (.pure 2 (.pure 3 (.pure 4 (.pure 5 (.pure 6 (.pure 7 (.pure 8 (.two 9 (.pure 10 (.eff 11 (.eff 12 .fin))) 11 (.eff 9 (.pure 10 (.eff 12 .fin))))))))))))) (by kernel_rfl) (fun w72 hu => ⟨Up.refl _, ?_⟩) ?_
                                                          · skip
                                                            subst e0 e3 e10 e11
                                                            replace G := G.tr (Go.ofUp hF hu)
                                                            replace hF := hF.up hu
                                                            replace k2 := k2.up hu
                                                            replace k5 := k5.up hu
                                                            replace k17 := k17.up hu
                                                            replace hX := hX.up hu
                                                            replace U := U.tr hu
                                                            have SU := Up.refl w72
                                                            have V70 : Ch (fun _ => False) w68 w72 := hu
                                                            refine t_step (by exact rfl) (y_moveV (et (gS rfl (gS rfl (gS rfl g0))) rfl)) ?_
                                                            refine t_step (by exact rfl) (y_nil (et g0 rfl)) ?_
                                                            refine t_step (by exact rfl) (y_fld fld_75_13 (et g0 rfl)) ?_
                                                            refine t_step (by exact rfl) (y_load1 one_26 (et g0 rfl) (atS (hX.vl.c1 (show _ = some (.int .u64 (T.gas - intrN T : Nat)) from hL.txg _ rfl) rfl))) ?_
                                                            refine t_step (by exact rfl) (y_loadB agg_25 sz_25 (et (gS rfl (gS rfl (gS rfl (gS rfl g0)))) rfl) (by rw [List.size_toArray, length_bL, length_be]) (atSB k17)) ?_
                                                            refine t_step (by exact rfl) (y_fld fld_41_0 (et (gS rfl (gS rfl (gS rfl (gS rfl (gS rfl (gS rfl (gS rfl g0))))))) rfl)) ?_
                                                            refine t_step (by exact rfl) (y_loadR agg_25 sz_25 (et g0 rfl) (by rw [length_bL, length_be]) (atSR (k2.row rT1))) ?_
                                                            refine t_step (by exact rfl) (y_fld fld_41_6 (et (gS rfl (gS rfl (gS rfl (gS rfl (gS rfl (gS rfl (gS rfl (gS rfl (gS rfl g0))))))))) rfl)) ?_
                                                            refine t_step (by exact rfl) (y_loadR agg_28 sz_28 (et g0 rfl) (by rw [length_bL, length_be]) (atSR (k2.row rT5))) ?_
                                                            refine t_two ?_ ?_
                                                            · skip
                                                              refine t_eff (by exact rfl) (e_callV cal_83 (aC (et g0 rfl) aN) (fromBytes_spec _ _)) (fun v73 w73 h73 => ?_)
                                                              obtain ⟨rfl, u73⟩ := h73
                                                              replace G := G.tr (Go.ofUp hF u73)
                                                              replace hF := hF.up u73
                                                              replace k2 := k2.up u73
                                                              replace k5 := k5.up u73
                                                              replace k17 := k17.up u73
                                                              replace hX := hX.up u73
                                                              replace U := U.tr u73
                                                              replace V70 := V70.tr u73
                                                              refine ⟨.inr (SU.tr u73), ?_⟩
                                                              replace SU := SU.tr u73
                                                              refine t_step (by exact rfl) ((y_bldMO (et (gS rfl (gS rfl (gS rfl (gS rfl (gS rfl (gS rfl g0)))))) rfl) (et (gS rfl (gS rfl (gS rfl (gS rfl (gS rfl g0))))) rfl) (et (gS rfl (gS rfl (gS rfl g0))) rfl) (et g0 rfl))) ?_
                                                              refine t_one ?_
                                                              refine t_eff (by exact rfl) (e_alloc zr_71) (fun v74 w74 h74 => ?_)
                                                              obtain ⟨b74, rfl, n74⟩ := h74
                                                              have d2_74 : b2 < b74 := Nat.lt_of_lt_of_le k2.lt n74.fresh
                                                              have d5_74 : b5 < b74 := Nat.lt_of_lt_of_le k5.lt n74.fresh
                                                              have d17_74 : b17 < b74 := Nat.lt_of_lt_of_le k17.lt n74.fresh
                                                              have f74 : w.heap.size ≤ b74 := Nat.le_trans U.size n74.fresh
                                                              have nb74 := hF.nb n74.fresh
                                                              have fS74 := Nat.le_trans SU.size n74.fresh
                                                              have fV70_74 := Nat.le_trans V70.size n74.fresh
                                                              replace G := G.tr (Go.ofUp hF n74.up)
                                                              replace hF := hF.up n74.up
                                                              replace k2 := k2.up n74.up
                                                              replace k5 := k5.up n74.up
                                                              replace k17 := k17.up n74.up
                                                              replace hX := hX.up n74.up
                                                              replace U := U.tr n74.up
                                                              replace V70 := V70.tr n74.up
                                                              have k74 := n74.blk
                                                              obtain ⟨zs74, hz74, k74⟩ : ∃ cs : Array Value, cs.size = 65 ∧ Blk w74 b74 cs := ⟨_, rfl, k74⟩
                                                              refine ⟨.inr (SU.tr n74.up), ?_⟩
                                                              replace SU := SU.tr n74.up
                                                              have nc74 := hnw1 b74 (Nat.le_trans hu.size fS74)
                                                              refine t_one ?_
                                                              refine t_effN (by exact rfl) (e_store sz_71 (et g0 rfl) (cellsV (et (gS rfl g0) rfl) rfl) (fcv_len rfl) (by exact fcv_one) k74 (by (rw [hz74]; exact Nat.le_refl _))) (fun v75 w75 h75 => ?_)
                                                              obtain ⟨rfl, x75⟩ := h75
                                                              replace k2 := k2.ch x75.ch (by omega)
                                                              replace k5 := k5.ch x75.ch (by omega)
                                                              replace k17 := k17.ch x75.ch (by omega)
                                                              replace hX := hX.ch x75.ch (by first | omega | (intro b hb; first | (subst hb; first | exact ⟨by omega, fun hh => by have := hfz.lt hh; omega, by omega⟩ | exact ⟨by omega, by assumption, by omega⟩) | (rcases hb with hb | hb <;> (subst hb; first | exact ⟨by omega, fun hh => by have := hfz.lt hh; omega, by omega⟩ | exact ⟨by omega, by assumption, by omega⟩))))
                                                              replace k74 := x75.blk.full (by rw [hz74, fcv_len rfl])
                                                              replace G := G.wr x75 (by first | exact .inr f74 | omega | (simp; omega)) nb74
                                                              replace hF := G.fz
                                                              replace U := U.st x75 (.inr f74)
                                                              replace V70 := V70.st x75 (by omega)
                                                              refine ⟨.inl rfl, ?_⟩
                                                              refine tl5 0 3 10 11 12 (gS rfl (gS rfl (gS rfl (gS rfl (gS rfl (gS rfl (gS rfl (gS rfl (gS rfl (gS rfl (gS rfl (gS rfl (gS rfl (gS rfl (gS rfl g0))))))))))))))) (gS rfl (gS rfl (gS rfl (gS rfl (gS rfl (gS rfl (gS rfl (gS rfl (gS rfl (gS rfl (gS rfl (gS rfl (gS rfl (gS rfl g0)))))))))))))) (gS rfl (gS rfl (gS rfl (gS rfl (gS rfl (gS rfl (gS rfl (gS rfl (gS rfl (gS rfl (gS rfl (gS rfl (gS rfl g0))))))))))))) (gS rfl (gS rfl (gS rfl (gS rfl (gS rfl (gS rfl (gS rfl (gS rfl (gS rfl (gS rfl (gS rfl (gS rfl g0)))))))))))) g0 (fun g => ?_)
                                                              exact ⟨g, _, rfl, V70, Nat.le_trans hu.size fS74, k74⟩
                                                            · skip
                                                              refine t_eff (by exact rfl) (e_alloc zr_71) (fun v76 w76 h76 => ?_)
                                                              obtain ⟨b76, rfl, n76⟩ := h76
                                                              have d2_76 : b2 < b76 := Nat.lt_of_lt_of_le k2.lt n76.fresh
                                                              have d5_76 : b5 < b76 := Nat.lt_of_lt_of_le k5.lt n76.fresh
                                                              have d17_76 : b17 < b76 := Nat.lt_of_lt_of_le k17.lt n76.fresh
                                                              have f76 : w.heap.size ≤ b76 := Nat.le_trans U.size n76.fresh
                                                              have nb76 := hF.nb n76.fresh
                                                              have fS76 := Nat.le_trans SU.size n76.fresh
                                                              have fV70_76 := Nat.le_trans V70.size n76.fresh
                                                              replace G := G.tr (Go.ofUp hF n76.up)
                                                              replace hF := hF.up n76.up
                                                              replace k2 := k2.up n76.up
                                                              replace k5 := k5.up n76.up
                                                              replace k17 := k17.up n76.up
                                                              replace hX := hX.up n76.up
                                                              replace U := U.tr n76.up
                                                              replace V70 := V70.tr n76.up
                                                              have k76 := n76.blk
                                                              obtain ⟨zs76, hz76, k76⟩ : ∃ cs : Array Value, cs.size = 65 ∧ Blk w76 b76 cs := ⟨_, rfl, k76⟩
                                                              refine ⟨.inr (SU.tr n76.up), ?_⟩
                                                              replace SU := SU.tr n76.up
                                                              have nc76 := hnw1 b76 (Nat.le_trans hu.size fS76)
                                                              refine t_one ?_
                                                              refine t_eff (by exact rfl) (e_callV cal_83 (aC (et (gS rfl g0) rfl) aN) (fromBytes_spec _ _)) (fun v77 w77 h77 => ?_)
                                                              obtain ⟨rfl, u77⟩ := h77
                                                              replace G := G.tr (Go.ofUp hF u77)
                                                              replace hF := hF.up u77
                                                              replace k2 := k2.up u77
                                                              replace k5 := k5.up u77
                                                              replace k17 := k17.up u77
                                                              replace k76 := k76.up u77
                                                              replace hX := hX.up u77
                                                              replace U := U.tr u77
                                                              replace V70 := V70.tr u77
                                                              refine ⟨.inr (SU.tr u77), ?_⟩
                                                              replace SU := SU.tr u77
                                                              refine t_step (by exact rfl) ((y_bldMO (et (gS rfl (gS rfl (gS rfl (gS rfl (gS rfl (gS rfl (gS rfl g0))))))) rfl) (et (gS rfl (gS rfl (gS rfl (gS rfl (gS rfl (gS rfl g0)))))) rfl) (et (gS rfl (gS rfl (gS rfl (gS rfl g0)))) rfl) (et g0 rfl))) ?_
                                                              refine t_one ?_
                                                              refine t_effN (by exact rfl) (e_store sz_71 (et (gS rfl (gS rfl g0)) rfl) (cellsV (et g0 rfl) rfl) (fcv_len rfl) (by exact fcv_one) k76 (by (rw [hz76]; exact Nat.le_refl _))) (fun v78 w78 h78 => ?_)
                                                              obtain ⟨rfl, x78⟩ := h78
                                                              replace k2 := k2.ch x78.ch (by omega)
                                                              replace k5 := k5.ch x78.ch (by omega)
                                                              replace k17 := k17.ch x78.ch (by omega)
                                                              replace hX := hX.ch x78.ch (by first | omega | (intro b hb; first | (subst hb; first | exact ⟨by omega, fun hh => by have := hfz.lt hh; omega, by omega⟩ | exact ⟨by omega, by assumption, by omega⟩) | (rcases hb with hb | hb <;> (subst hb; first | exact ⟨by omega, fun hh => by have := hfz.lt hh; omega, by omega⟩ | exact ⟨by omega, by assumption, by omega⟩))))
                                                              replace k76 := x78.blk.full (by rw [hz76, fcv_len rfl])
                                                              replace G := G.wr x78 (by first | exact .inr f76 | omega | (simp; omega)) nb76
                                                              replace hF := G.fz
                                                              replace U := U.st x78 (.inr f76)
                                                              replace V70 := V70.st x78 (by omega)
                                                              refine ⟨.inl rfl, ?_⟩
                                                              refine tl5 0 3 10 11 12 (gS rfl (gS rfl (gS rfl (gS rfl (gS rfl (gS rfl (gS rfl (gS rfl (gS rfl (gS rfl (gS rfl (gS rfl (gS rfl (gS rfl (gS rfl g0))))))))))))))) (gS rfl (gS rfl (gS rfl (gS rfl (gS rfl (gS rfl (gS rfl (gS rfl (gS rfl (gS rfl (gS rfl (gS rfl (gS rfl (gS rfl g0)))))))))))))) (gS rfl (gS rfl (gS rfl (gS rfl (gS rfl (gS rfl (gS rfl (gS rfl (gS rfl (gS rfl (gS rfl (gS rfl (gS rfl g0))))))))))))) (gS rfl (gS rfl (gS rfl (gS rfl (gS rfl (gS rfl (gS rfl (gS rfl (gS rfl (gS rfl (gS rfl (gS rfl g0)))))))))))) (gS rfl (gS rfl g0)) (fun g => ?_)
                                                              exact ⟨g, _, rfl, V70, Nat.le_trans hu.size fS76, k76⟩
                                                          intro s_ w79 hJ
                                                          obtain ⟨g, b71, rfl, V70, fn71, kn71⟩ := hJ
                                                          subst e0 e3 e10 e11
                                                          have d2_71 : b2 < b71 := Nat.lt_of_lt_of_le k2.lt fn71
                                                          have d5_71 : b5 < b71 := Nat.lt_of_lt_of_le k5.lt fn71
                                                          have d17_71 : b17 < b71 := Nat.lt_of_lt_of_le k17.lt fn71
                                                          have f71 : w.heap.size ≤ b71 := Nat.le_trans U.size fn71
                                                          have nb71 := hF.nb fn71
                                                          replace G := G.tr (Go.ofUp hF V70)
                                                          replace hF := hF.up V70
                                                          replace k2 := k2.up V70
                                                          replace k5 := k5.up V70
                                                          replace k17 := k17.up V70
                                                          replace hX := hX.up V70
                                                          replace U := U.tr V70
                                                          have k71 := kn71
                                                          have nc71 := hnw1 b71 fn71
                                                          refine hK69 _ _ ?_
                                                          refine c_seq (fun K80 hK80 => ?_)
                                                          refine c_seq (fun K81 hK81 => ?_)
                                                          exact (by
                                                            refine c_region ?_
                                                            refine l_step (y_fld fld_41_2 (et (gS rfl (gS rfl (gS rfl g0))) rfl)) ?_
                                                            refine l_step (y_load1 one_4 (et g0 rfl) (at1 (k2.cell (rT3 0 _ rfl)))) ?_
                                                            refine l_step (y_not (et g0 rfl)) ?_
                                                            refine l_nil ?_
                                                            refine hK81 _ _ ?_
                                                            refine fg6 0 3 10 11 12 184 (gS rfl (gS rfl (gS rfl (gS rfl (gS rfl (gS rfl (gS rfl g0))))))) (gS rfl (gS rfl (gS rfl (gS rfl (gS rfl (gS rfl g0)))))) (gS rfl (gS rfl (gS rfl (gS rfl (gS rfl g0))))) (gS rfl (gS rfl (gS rfl (gS rfl g0)))) (gS rfl (gS rfl (gS rfl g0))) g0 (fun g => ?_)
                                                            refine c_true (et g0 rfl) (by (rw [hcr]; rfl)) ?_
                                                            refine c_seq (fun K83 hK83 => ?_)
                                                            exact (by
                                                              refine c_region ?_
                                                              refine l_step (y_loadB agg_25 sz_25 (et (gS rfl (gS rfl g0)) rfl) (by rw [List.size_toArray, length_bL, length_be]) (at1B k17)) ?_
                                                              refine l_eff (e_callV cal_102 (aC (et g0 rfl) aN) (mach_nativeAt _ _ tok.to)) (fun v84 w84 h84 => ?_)
                                                              obtain ⟨rfl, u84⟩ := h84
                                                              replace G := G.tr (Go.ofUp hF u84)
                                                              replace hF := hF.up u84
                                                              replace k2 := k2.up u84
                                                              replace k5 := k5.up u84
                                                              replace k17 := k17.up u84
                                                              replace k71 := k71.up u84
                                                              replace hX := hX.up u84
                                                              replace U := U.tr u84
                                                              refine l_step (y_fld fld_71_2 (et (gS rfl (gS rfl (gS rfl g0))) rfl)) ?_
                                                              refine l_effN (e_store sz_5 (et g0 rfl) (cellsV (et (gS rfl g0) rfl) rfl) rfl (by first | exact one_bL _ | exact one_uL _ | (intro v hv; simp at hv; subst hv; rfl)) k71 (by (rw [List.size_toArray, fcv_len rfl]; decide))) (fun v85 w85 h85 => ?_)
                                                              obtain ⟨rfl, x85⟩ := h85
                                                              replace k2 := k2.ch x85.ch (by omega)
                                                              replace k5 := k5.ch x85.ch (by omega)
                                                              replace k17 := k17.ch x85.ch (by omega)
                                                              replace hX := hX.ch x85.ch (by first | omega | (intro b hb; first | (subst hb; first | exact ⟨by omega, fun hh => by have := hfz.lt hh; omega, by omega⟩ | exact ⟨by omega, by assumption, by omega⟩) | (rcases hb with hb | hb <;> (subst hb; first | exact ⟨by omega, fun hh => by have := hfz.lt hh; omega, by omega⟩ | exact ⟨by omega, by assumption, by omega⟩))))
                                                              replace k71 := x85.blk
                                                              replace G := G.wr x85 (by first | exact .inr f71 | omega | (simp; omega)) nb71
                                                              replace hF := G.fz
                                                              replace U := U.st x85 (.inr f71)
                                                              replace k71 := Blk.fnt (q := _) k71
                                                              refine l_nil ?_
                                                              refine hK83 _ _ ?_
                                                              refine fg4 0 3 11 12 (gS rfl (gS rfl (gS rfl (gS rfl (gS rfl (gS rfl (gS rfl (gS rfl g0)))))))) (gS rfl (gS rfl (gS rfl (gS rfl (gS rfl (gS rfl (gS rfl g0))))))) (gS rfl (gS rfl (gS rfl (gS rfl (gS rfl g0))))) (gS rfl (gS rfl (gS rfl (gS rfl g0)))) (fun g => ?_)
                                                              refine c_seq (fun K86 hK86 => ?_)
                                                              refine c_seq (fun K87 hK87 => ?_)
                                                              exact (by
                                                                refine c_region ?_
                                                                refine l_step (y_fld fld_71_2 (et g0 rfl)) ?_
                                                                refine l_step (y_load1 one_5 (et g0 rfl) (at1 (k71.cell (show _ = some (Value.int .u8 (natAt T.to : Nat)) from rfl)))) ?_
                                                                refine l_step (y_eql (et g0 rfl) rfl) ?_
                                                                refine l_nil ?_
                                                                refine hK87 _ _ ?_
                                                                refine fg5 0 3 11 12 190 (gS rfl (gS rfl (gS rfl (gS rfl (gS rfl (gS rfl g0)))))) (gS rfl (gS rfl (gS rfl (gS rfl (gS rfl g0))))) (gS rfl (gS rfl (gS rfl (gS rfl g0)))) (gS rfl (gS rfl (gS rfl g0))) g0 (fun g => ?_)
                                                                refine c_cond (et g0 rfl) (fun cB5 => ?_) (fun cB5 => ?_)
                                                                · skip
                                                                  
                                                                  have hnt : natAt T.to = 0 := by have := of_decide_eq_true cB5; omega
                                                                  exact (by
                                                                    refine c_draw Up 7 [(0, true), (1, true), (2, true), (3, true), (4, true), (5, false), (6, true), (7, false)] (by kernel_rfl) (fun w89 hu => ⟨Up.refl _, ?_⟩)
                                                                    replace G := G.tr (Go.ofUp hF hu)
                                                                    replace hF := hF.up hu
                                                                    replace k2 := k2.up hu
                                                                    replace k5 := k5.up hu
                                                                    replace k17 := k17.up hu
                                                                    replace k71 := k71.up hu
                                                                    replace hX := hX.up hu
                                                                    replace U := U.tr hu
                                                                    have SU := Up.refl w89
                                                                    refine p_step (by exact rfl) (y_moveV (et (gS rfl (gS rfl (gS rfl (gS rfl g0)))) rfl)) ?_
                                                                    refine p_step (by exact rfl) (y_nil (et g0 rfl)) ?_
                                                                    refine p_step (by exact rfl) (y_fld fld_75_0 (et g0 rfl)) ?_
                                                                    refine p_step (by exact rfl) (y_load1 one_59 (et g0 rfl) (atS (hX.vl.c1 hL.pS rfl))) ?_
                                                                    refine p_step (by exact rfl) (y_loadB agg_25 sz_25 (et (gS rfl (gS rfl (gS rfl (gS rfl (gS rfl (gS rfl g0)))))) rfl) (by rw [List.size_toArray, length_bL, length_be]) (atSB k17)) ?_
                                                                    have hco9 : (absV V68).code T.to = (acctAt (bW s T).accts T.to).code := by rw [hva.abs]; rfl
                                                                    refine p_eff (by exact rfl) (e_callV cal_103 (aC (et (gS rfl g0) rfl) (aC (et g0 rfl) aN)) (hco9 ▸ v_code hX.vl hX.ok T.to tok.to)) (fun v90 w90 h90 => ?_)
                                                                    obtain ⟨H90, g90, bv9⟩ := h90
                                                                    have hXn90 := hX.gn g90
                                                                    have hlew90 := g90.le
                                                                    replace nb2 := g90.nb nb2 k2.lt
                                                                    replace nb5 := g90.nb nb5 k5.lt
                                                                    replace nb17 := g90.nb nb17 k17.lt
                                                                    replace nb71 := g90.nb nb71 k71.lt
                                                                    replace hL0 := hL0.trans hlew90
                                                                    replace k2 := k2.up g90.up
                                                                    replace k5 := k5.up g90.up
                                                                    replace k17 := k17.up g90.up
                                                                    replace k71 := k71.up g90.up
                                                                    replace hX := hX.up g90.up
                                                                    replace U := U.tr g90.up
                                                                    replace G := G.tr g90
                                                                    replace hF := g90.fz
                                                                    obtain ⟨ca9, cc9, rfl⟩ := bv9.sl
                                                                    replace hX := hXn90
                                                                    replace hL := hL.mono g90.le
                                                                    refine ⟨.inr (SU.tr g90.up), ?_⟩
                                                                    replace SU := SU.tr g90.up
                                                                    exact (by
                                                                      refine p_step (by exact rfl) (y_fld fld_71_12 (et (gS rfl (gS rfl (gS rfl (gS rfl (gS rfl (gS rfl (gS rfl g0))))))) rfl)) ?_
                                                                      refine p_effN (by exact rfl) (e_store sz_38 (et g0 rfl) (cellsV (et (gS rfl g0) rfl) rfl) rfl (by first | exact one_bL _ | exact one_uL _ | (intro v hv; simp at hv; subst hv; rfl)) k71 (by (rw [List.size_toArray, fcv_len rfl]; decide))) (fun v91 w91 h91 => ?_)
                                                                      obtain ⟨rfl, x91⟩ := h91
                                                                      replace k2 := k2.ch x91.ch (by omega)
                                                                      replace k5 := k5.ch x91.ch (by omega)
                                                                      replace k17 := k17.ch x91.ch (by omega)
                                                                      replace hX := hX.ch x91.ch (by first | omega | (intro b hb; first | (subst hb; first | exact ⟨by omega, fun hh => by have := hfz.lt hh; omega, by omega⟩ | exact ⟨by omega, by assumption, by omega⟩) | (rcases hb with hb | hb <;> (subst hb; first | exact ⟨by omega, fun hh => by have := hfz.lt hh; omega, by omega⟩ | exact ⟨by omega, by assumption, by omega⟩))))
                                                                      replace k71 := x91.blk
                                                                      replace G := G.wr x91 (by first | exact .inr f71 | omega | (simp; omega)) nb71
                                                                      replace hF := G.fz
                                                                      replace U := U.st x91 (.inr f71)
                                                                      refine ⟨.inl rfl, ?_⟩
                                                                      replace k71 := Blk.fco (q := _) k71
                                                                      refine p_nil ?_
                                                                      refine hK86 _ _ ?_
                                                                      refine fg3 0 3 12 (gS rfl (gS rfl (gS rfl (gS rfl (gS rfl (gS rfl (gS rfl (gS rfl (gS rfl (gS rfl (gS rfl g0))))))))))) (gS rfl (gS rfl (gS rfl (gS rfl (gS rfl (gS rfl (gS rfl (gS rfl (gS rfl (gS rfl g0)))))))))) (gS rfl (gS rfl (gS rfl (gS rfl (gS rfl (gS rfl (gS rfl (gS rfl g0)))))))) (fun g => ?_)
                                                                      refine c_seq (fun K92 hK92 => ?_)
                                                                      exact (by
                                                                        refine c_region ?_
                                                                        refine l_step (y_fld fld_41_7 (et (gS rfl g0) rfl)) ?_
                                                                        refine l_step (y_load1 one_38 (et g0 rfl) (at1 (k2.cell (rT6 0 _ rfl)))) ?_
                                                                        refine l_eff (e_callV cal_104 (aC (et g0 rfl) aN) (engine_copied _ _ _ T.data _ _ hF ((hTd.mono hL0).wv hF) (Nat.le_refl _) (by omega))) (fun v93 w93 h93 => ?_)
                                                                        obtain ⟨H93, g93, bo9⟩ := h93
                                                                        have hXn93 := hX.gn g93
                                                                        have hlew93 := g93.le
                                                                        replace nb2 := g93.nb nb2 k2.lt
                                                                        replace nb5 := g93.nb nb5 k5.lt
                                                                        replace nb17 := g93.nb nb17 k17.lt
                                                                        replace nb71 := g93.nb nb71 k71.lt
                                                                        replace bv9 := bv9.mono hlew93
                                                                        replace hL0 := hL0.trans hlew93
                                                                        replace k2 := k2.up g93.up
                                                                        replace k5 := k5.up g93.up
                                                                        replace k17 := k17.up g93.up
                                                                        replace k71 := k71.up g93.up
                                                                        replace hX := hX.up g93.up
                                                                        replace U := U.tr g93.up
                                                                        replace G := G.tr g93
                                                                        replace hF := g93.fz
                                                                        obtain ⟨ia9, ic9, rfl⟩ := bo9.sl
                                                                        replace hX := hXn93
                                                                        replace hL := hL.mono g93.le
                                                                        refine l_step (y_fld fld_71_13 (et (gS rfl (gS rfl (gS rfl g0))) rfl)) ?_
                                                                        refine l_effN (e_store sz_38 (et g0 rfl) (cellsV (et (gS rfl g0) rfl) rfl) rfl (by first | exact one_bL _ | exact one_uL _ | (intro v hv; simp at hv; subst hv; rfl)) k71 (by (rw [List.size_toArray, fcv_len rfl]; decide))) (fun v94 w94 h94 => ?_)
                                                                        obtain ⟨rfl, x94⟩ := h94
                                                                        replace k2 := k2.ch x94.ch (by omega)
                                                                        replace k5 := k5.ch x94.ch (by omega)
                                                                        replace k17 := k17.ch x94.ch (by omega)
                                                                        replace hX := hX.ch x94.ch (by first | omega | (intro b hb; first | (subst hb; first | exact ⟨by omega, fun hh => by have := hfz.lt hh; omega, by omega⟩ | exact ⟨by omega, by assumption, by omega⟩) | (rcases hb with hb | hb <;> (subst hb; first | exact ⟨by omega, fun hh => by have := hfz.lt hh; omega, by omega⟩ | exact ⟨by omega, by assumption, by omega⟩))))
                                                                        replace k71 := x94.blk
                                                                        replace G := G.wr x94 (by first | exact .inr f71 | omega | (simp; omega)) nb71
                                                                        replace hF := G.fz
                                                                        replace U := U.st x94 (.inr f71)
                                                                        replace k71 := Blk.fin (q := _) k71
                                                                        refine l_nil ?_
                                                                        refine hK92 _ _ ?_
                                                                        refine fg2 0 12 (gS rfl (gS rfl (gS rfl (gS rfl (gS rfl (gS rfl g0)))))) (gS rfl (gS rfl (gS rfl (gS rfl g0)))) (fun g => ?_)
                                                                        refine c_seq (fun K95 hK95 => ?_)
                                                                        exact (by
                                                                          refine c_region ?_
                                                                          refine l_step (y_moveV (et (gS rfl g0) rfl)) ?_
                                                                          have euu : (cFr 0 false T.value T.to T.frm (T.gas - intrN T) (natAt T.to) (acctAt (bW s T).accts T.to).code T.data) = { cFr 0 false T.value T.to T.frm (T.gas - intrN T) (natAt T.to) [] [] with code := (acctAt (bW s T).accts T.to).code, input := T.data } := rfl
                                                                          have ebf : bF s T = (cFr 0 false T.value T.to T.frm (T.gas - intrN T) (natAt T.to) (acctAt (bW s T).accts T.to).code T.data) := by unfold bF; rw [if_neg (by rw [hcr]; exact Bool.false_ne_true), hTg, if_pos hnt]
                                                                          have hbc : BV H93 (.slice ca9 (cFr 0 false T.value T.to T.frm (T.gas - intrN T) (natAt T.to) (acctAt (bW s T).accts T.to).code T.data).code.length cc9) (cFr 0 false T.value T.to T.frm (T.gas - intrN T) (natAt T.to) (acctAt (bW s T).accts T.to).code T.data).code := bv9
                                                                          have hbi : BV H93 (.slice ia9 (cFr 0 false T.value T.to T.frm (T.gas - intrN T) (natAt T.to) (acctAt (bW s T).accts T.to).code T.data).input.length ic9) (cFr 0 false T.value T.to T.frm (T.gas - intrN T) (natAt T.to) (acctAt (bW s T).accts T.to).code T.data).input := bo9
                                                                          replace k71 : Blk w94 b71 (fcv (cFr 0 false T.value T.to T.frm (T.gas - intrN T) (natAt T.to) (acctAt (bW s T).accts T.to).code T.data) (.slice ca9 (cFr 0 false T.value T.to T.frm (T.gas - intrN T) (natAt T.to) (acctAt (bW s T).accts T.to).code T.data).code.length cc9) (.slice ia9 (cFr 0 false T.value T.to T.frm (T.gas - intrN T) (natAt T.to) (acctAt (bW s T).accts T.to).code T.data).input.length ic9) 0 0 0 (List.replicate 8 0)).toArray := by
                                                                            show Blk _ _ (fcv (cFr 0 false T.value T.to T.frm (T.gas - intrN T) (natAt T.to) (acctAt (bW s T).accts T.to).code T.data) (.slice ca9 ((acctAt (bW s T).accts T.to).code).length cc9) (.slice ia9 (T.data : List Nat).length ic9) 0 0 0 (List.replicate 8 0)).toArray
                                                                            rw [euu, fcv_ci]
                                                                            exact k71
                                                                          have hMd : (bS s T).made = 0 := if_neg (by rw [hcr]; exact Bool.false_ne_true)
                                                                          have hLq := hL.q (q2 := qOf (bS s T) (some (T.gas - intrN T)) (some (T.gas * priceN s T))) (by unfold qOf; rw [hMd]; rfl)
                                                                          have hpx : PX V68 (bS s T) [] [] ((T.gas - intrN T) + 100) := open_px hi hEI vd hva (by omega) (by omega) (by omega) (by omega) hmk9 ⟨hhf, hhc⟩ _ (Nat.le_refl _)
                                                                          have hXT := hX.xt (hLq.lx rfl (fun h9 => absurd h9 (by show ¬ s.phase = 2; omega))) hpx
                                                                          have hcl9 : ∀ a, (acctAt (bW s T).accts a).code.length ≤ 512 := fun a => hXT.ex.codeLen a
                                                                          have hU : EFB (cFr 0 false T.value T.to T.frm (T.gas - intrN T) (natAt T.to) (acctAt (bW s T).accts T.to).code T.data) := ⟨by show 0 < 8; decide, natAt_lt _, Nat.zero_le _, Nat.zero_le _, fun _ h => absurd h List.not_mem_nil, by show (T.gas - intrN T) ≤ 1048576; omega, by show T.to < A160; exact tok.to, tok.frm, tok.value, by show ((acctAt (bW s T).accts T.to).code).length ≤ 512; exact hcl9 T.to, by show (T.data : List Nat).length ≤ 717280; exact (by have := vd.data; omega), Nat.zero_le _, Nat.zero_le _, hbc.dig, hbi.dig⟩
                                                                          have hcc : 0 + (cFr 0 false T.value T.to T.frm (T.gas - intrN T) (natAt T.to) (acctAt (bW s T).accts T.to).code T.data).gas + (if crN (cFr 0 false T.value T.to T.frm (T.gas - intrN T) (natAt T.to) (acctAt (bW s T).accts T.to).code T.data).kind = true then 50 else 0) + (if (cFr 0 false T.value T.to T.frm (T.gas - intrN T) (natAt T.to) (acctAt (bW s T).accts T.to).code T.data).kind ≠ 3 ∧ (cFr 0 false T.value T.to T.frm (T.gas - intrN T) (natAt T.to) (acctAt (bW s T).accts T.to).code T.data).kind ≠ 7 ∧ (cFr 0 false T.value T.to T.frm (T.gas - intrN T) (natAt T.to) (acctAt (bW s T).accts T.to).code T.data).value ≠ 0 then 50 else 0) ≤ (T.gas - intrN T) + 100 := by
                                                                            show 0 + (T.gas - intrN T) + _ + _ ≤ _
                                                                            split <;> split <;> omega
                                                                          have hmk : 100 * V68.marks.length + (gasS (bS s T) + ((T.gas - intrN T) + 100)) ≤ 1048576 := by
                                                                            rw [hmk9, show gasS (bS s T) = 0 from rfl]
                                                                            show 100 * 0 + _ ≤ _
                                                                            omega
                                                                          have hle : (cFr 0 false T.value T.to T.frm (T.gas - intrN T) (natAt T.to) (acctAt (bW s T).accts T.to).code T.data).kind ≠ 3 → (cFr 0 false T.value T.to T.frm (T.gas - intrN T) (natAt T.to) (acctAt (bW s T).accts T.to).code T.data).kind ≠ 7 → (cFr 0 false T.value T.to T.frm (T.gas - intrN T) (natAt T.to) (acctAt (bW s T).accts T.to).code T.data).value ≤ (acctAt (entA1 (bS s T).now (cFr 0 false T.value T.to T.frm (T.gas - intrN T) (natAt T.to) (acctAt (bW s T).accts T.to).code T.data)) (cFr 0 false T.value T.to T.frm (T.gas - intrN T) (natAt T.to) (acctAt (bW s T).accts T.to).code T.data).caller).bal := by
                                                                            intro _ _
                                                                            show T.value ≤ (acctAt (bW s T).accts T.frm).bal
                                                                            rw [bA2_frm]
                                                                            omega
                                                                          have hov : (cFr 0 false T.value T.to T.frm (T.gas - intrN T) (natAt T.to) (acctAt (bW s T).accts T.to).code T.data).kind ≠ 3 → (cFr 0 false T.value T.to T.frm (T.gas - intrN T) (natAt T.to) (acctAt (bW s T).accts T.to).code T.data).kind ≠ 7 → (cFr 0 false T.value T.to T.frm (T.gas - intrN T) (natAt T.to) (acctAt (bW s T).accts T.to).code T.data).value ≠ 0 → (acctAt (takeB (entA1 (bS s T).now (cFr 0 false T.value T.to T.frm (T.gas - intrN T) (natAt T.to) (acctAt (bW s T).accts T.to).code T.data)) (cFr 0 false T.value T.to T.frm (T.gas - intrN T) (natAt T.to) (acctAt (bW s T).accts T.to).code T.data).caller (cFr 0 false T.value T.to T.frm (T.gas - intrN T) (natAt T.to) (acctAt (bW s T).accts T.to).code T.data).value) (cFr 0 false T.value T.to T.frm (T.gas - intrN T) (natAt T.to) (acctAt (bW s T).accts T.to).code T.data).self).bal + (cFr 0 false T.value T.to T.frm (T.gas - intrN T) (natAt T.to) (acctAt (bW s T).accts T.to).code T.data).value < W256 := by
                                                                            intro _ _ _
                                                                            refine (WI.bw hi vd).room (a := T.frm) (b := T.to) (v := T.value) ?_
                                                                            rw [bA2_frm]
                                                                            omega
                                                                          refine l_step (y_loadB agg_71 sz_71 (et (gS rfl g0) rfl) (by rw [List.size_toArray, fcv_len rfl]) (at1B k71)) ?_
                                                                          exact (by
                                                                            refine l_eff (e_callV cal_105 (aC (et (gS rfl g0) rfl) (aC (et g0 rfl) aN)) (m_enter hXT.ex (by show s.phase ≤ 1; omega) (Nat.zero_le _) (Nat.zero_le _) (u := (cFr 0 false T.value T.to T.frm (T.gas - intrN T) (natAt T.to) (acctAt (bW s T).accts T.to).code T.data)) hbc hbi hU rfl (c' := 0) (by show s.applied + 1 ≤ 4; have := vd.ap; omega) hmk hcc hht hhf hle hov hLq.lim hLq.mad ⟨hhf, hhc⟩)) (fun v96 w96 h96 => ?_)
                                                                            obtain ⟨rfl, cl96, cs96, V96, y96⟩ := h96
                                                                            replace G := G.chs y96.et.go.ch (by intro b hb; exact .inl trivial) (by intro q hq hh; have h9 := hX.vl.kept q hh; (have e0 := hq); omega)
                                                                            replace hF := G.fz
                                                                            replace k2 := k2.ch y96.et.go.ch (by intro hm; (have e0 := hm); omega)
                                                                            replace k5 := k5.ch y96.et.go.ch (by intro hm; (have e0 := hm); omega)
                                                                            replace k17 := k17.ch y96.et.go.ch (by intro hm; (have e0 := hm); omega)
                                                                            replace k71 := k71.ch y96.et.go.ch (by intro hm; (have e0 := hm); omega)
                                                                            replace hX := hX.trans y96.xr
                                                                            replace U := U.cc y96.et.go.ch (by intro b hb; exact .inl trivial)
                                                                            refine l_nil ?_
                                                                            refine hK95 _ _ ?_
                                                                            refine fg0 (fun g => ?_)
                                                                            refine c_seq (fun K97 hK97 => ?_)
                                                                            exact (by
                                                                              refine c_region ?_
                                                                              refine l_step y_assignC ?_
                                                                              refine l_nil ?_
                                                                              refine hK97 _ _ ?_
                                                                              refine c_ret ?_
                                                                              repeat with_reducible refine then_ret ?_
                                                                              refine ret1 rfl (res_tmp (et g0 rfl)) ?_
                                                                              have ebY : begY s T = entY { bS s T with phase := 1 } (cFr 0 false T.value T.to T.frm (T.gas - intrN T) (natAt T.to) (acctAt (bW s T).accts T.to).code T.data) := by
                                                                                unfold begY
                                                                                rw [if_neg (fun h9 => by have h8 := h9.1; rw [hcr] at h8; cases h8), ebf]
                                                                              rw [ebY]
                                                                              exact ⟨rfl, _, _, _, _, _, _, y96.ex, hX.et⟩))))))
                                                                · skip
                                                                  
                                                                  have hnt : ¬ natAt T.to = 0 := by have := of_decide_eq_false cB5; omega
                                                                  refine c_skip ?_
                                                                  refine hK86 _ _ ?_
                                                                  refine fg3 0 3 12 (gS rfl (gS rfl (gS rfl (gS rfl g0)))) (gS rfl (gS rfl (gS rfl g0))) (gS rfl g0) (fun g => ?_)
                                                                  refine c_seq (fun K98 hK98 => ?_)
                                                                  exact (by
                                                                    refine c_region ?_
                                                                    refine l_step (y_fld fld_41_7 (et (gS rfl g0) rfl)) ?_
                                                                    refine l_step (y_load1 one_38 (et g0 rfl) (at1 (k2.cell (rT6 0 _ rfl)))) ?_
                                                                    refine l_eff (e_callV cal_104 (aC (et g0 rfl) aN) (engine_copied _ _ _ T.data _ _ hF ((hTd.mono hL0).wv hF) (Nat.le_refl _) (by omega))) (fun v99 w99 h99 => ?_)
                                                                    obtain ⟨H99, g99, bo9⟩ := h99
                                                                    have hXn99 := hX.gn g99
                                                                    have hlew99 := g99.le
                                                                    replace nb2 := g99.nb nb2 k2.lt
                                                                    replace nb5 := g99.nb nb5 k5.lt
                                                                    replace nb17 := g99.nb nb17 k17.lt
                                                                    replace nb71 := g99.nb nb71 k71.lt
                                                                    replace hL0 := hL0.trans hlew99
                                                                    replace k2 := k2.up g99.up
                                                                    replace k5 := k5.up g99.up
                                                                    replace k17 := k17.up g99.up
                                                                    replace k71 := k71.up g99.up
                                                                    replace hX := hX.up g99.up
                                                                    replace U := U.tr g99.up
                                                                    replace G := G.tr g99
                                                                    replace hF := g99.fz
                                                                    obtain ⟨ia9, ic9, rfl⟩ := bo9.sl
                                                                    replace hX := hXn99
                                                                    replace hL := hL.mono g99.le
                                                                    refine l_step (y_fld fld_71_13 (et (gS rfl (gS rfl (gS rfl g0))) rfl)) ?_
                                                                    refine l_effN (e_store sz_38 (et g0 rfl) (cellsV (et (gS rfl g0) rfl) rfl) rfl (by first | exact one_bL _ | exact one_uL _ | (intro v hv; simp at hv; subst hv; rfl)) k71 (by (rw [List.size_toArray, fcv_len rfl]; decide))) (fun v100 w100 h100 => ?_)
                                                                    obtain ⟨rfl, x100⟩ := h100
                                                                    replace k2 := k2.ch x100.ch (by omega)
                                                                    replace k5 := k5.ch x100.ch (by omega)
                                                                    replace k17 := k17.ch x100.ch (by omega)
                                                                    replace hX := hX.ch x100.ch (by first | omega | (intro b hb; first | (subst hb; first | exact ⟨by omega, fun hh => by have := hfz.lt hh; omega, by omega⟩ | exact ⟨by omega, by assumption, by omega⟩) | (rcases hb with hb | hb <;> (subst hb; first | exact ⟨by omega, fun hh => by have := hfz.lt hh; omega, by omega⟩ | exact ⟨by omega, by assumption, by omega⟩))))
                                                                    replace k71 := x100.blk
                                                                    replace G := G.wr x100 (by first | exact .inr f71 | omega | (simp; omega)) nb71
                                                                    replace hF := G.fz
                                                                    replace U := U.st x100 (.inr f71)
                                                                    replace k71 := Blk.fin (q := _) k71
                                                                    refine l_nil ?_
                                                                    refine hK98 _ _ ?_
                                                                    refine fg2 0 12 (gS rfl (gS rfl (gS rfl (gS rfl (gS rfl (gS rfl g0)))))) (gS rfl (gS rfl (gS rfl (gS rfl g0)))) (fun g => ?_)
                                                                    refine c_seq (fun K101 hK101 => ?_)
                                                                    exact (by
                                                                      refine c_region ?_
                                                                      refine l_step (y_moveV (et (gS rfl g0) rfl)) ?_
                                                                      have euu : (cFr 0 false T.value T.to T.frm (T.gas - intrN T) (natAt T.to) [] T.data) = { cFr 0 false T.value T.to T.frm (T.gas - intrN T) (natAt T.to) [] [] with code := [], input := T.data } := rfl
                                                                      have ebf : bF s T = (cFr 0 false T.value T.to T.frm (T.gas - intrN T) (natAt T.to) [] T.data) := by unfold bF; rw [if_neg (by rw [hcr]; exact Bool.false_ne_true), hTg, if_neg hnt]
                                                                      have hbc : BV H99 (.slice none (cFr 0 false T.value T.to T.frm (T.gas - intrN T) (natAt T.to) [] T.data).code.length 0) (cFr 0 false T.value T.to T.frm (T.gas - intrN T) (natAt T.to) [] T.data).code := (BV.nil _)
                                                                      have hbi : BV H99 (.slice ia9 (cFr 0 false T.value T.to T.frm (T.gas - intrN T) (natAt T.to) [] T.data).input.length ic9) (cFr 0 false T.value T.to T.frm (T.gas - intrN T) (natAt T.to) [] T.data).input := bo9
                                                                      replace k71 : Blk w100 b71 (fcv (cFr 0 false T.value T.to T.frm (T.gas - intrN T) (natAt T.to) [] T.data) (.slice none (cFr 0 false T.value T.to T.frm (T.gas - intrN T) (natAt T.to) [] T.data).code.length 0) (.slice ia9 (cFr 0 false T.value T.to T.frm (T.gas - intrN T) (natAt T.to) [] T.data).input.length ic9) 0 0 0 (List.replicate 8 0)).toArray := by
                                                                        show Blk _ _ (fcv (cFr 0 false T.value T.to T.frm (T.gas - intrN T) (natAt T.to) [] T.data) (.slice none ([]).length 0) (.slice ia9 (T.data : List Nat).length ic9) 0 0 0 (List.replicate 8 0)).toArray
                                                                        rw [euu, fcv_ci]
                                                                        exact k71
                                                                      have hMd : (bS s T).made = 0 := if_neg (by rw [hcr]; exact Bool.false_ne_true)
                                                                      have hLq := hL.q (q2 := qOf (bS s T) (some (T.gas - intrN T)) (some (T.gas * priceN s T))) (by unfold qOf; rw [hMd]; rfl)
                                                                      have hpx : PX V68 (bS s T) [] [] ((T.gas - intrN T) + 100) := open_px hi hEI vd hva (by omega) (by omega) (by omega) (by omega) hmk9 ⟨hhf, hhc⟩ _ (Nat.le_refl _)
                                                                      have hXT := hX.xt (hLq.lx rfl (fun h9 => absurd h9 (by show ¬ s.phase = 2; omega))) hpx
                                                                      have hcl9 : ∀ a, (acctAt (bW s T).accts a).code.length ≤ 512 := fun a => hXT.ex.codeLen a
                                                                      have hU : EFB (cFr 0 false T.value T.to T.frm (T.gas - intrN T) (natAt T.to) [] T.data) := ⟨by show 0 < 8; decide, natAt_lt _, Nat.zero_le _, Nat.zero_le _, fun _ h => absurd h List.not_mem_nil, by show (T.gas - intrN T) ≤ 1048576; omega, by show T.to < A160; exact tok.to, tok.frm, tok.value, by show ([]).length ≤ 512; exact Nat.zero_le _, by show (T.data : List Nat).length ≤ 717280; exact (by have := vd.data; omega), Nat.zero_le _, Nat.zero_le _, hbc.dig, hbi.dig⟩
                                                                      have hcc : 0 + (cFr 0 false T.value T.to T.frm (T.gas - intrN T) (natAt T.to) [] T.data).gas + (if crN (cFr 0 false T.value T.to T.frm (T.gas - intrN T) (natAt T.to) [] T.data).kind = true then 50 else 0) + (if (cFr 0 false T.value T.to T.frm (T.gas - intrN T) (natAt T.to) [] T.data).kind ≠ 3 ∧ (cFr 0 false T.value T.to T.frm (T.gas - intrN T) (natAt T.to) [] T.data).kind ≠ 7 ∧ (cFr 0 false T.value T.to T.frm (T.gas - intrN T) (natAt T.to) [] T.data).value ≠ 0 then 50 else 0) ≤ (T.gas - intrN T) + 100 := by
                                                                        show 0 + (T.gas - intrN T) + _ + _ ≤ _
                                                                        split <;> split <;> omega
                                                                      have hmk : 100 * V68.marks.length + (gasS (bS s T) + ((T.gas - intrN T) + 100)) ≤ 1048576 := by
                                                                        rw [hmk9, show gasS (bS s T) = 0 from rfl]
                                                                        show 100 * 0 + _ ≤ _
                                                                        omega
                                                                      have hle : (cFr 0 false T.value T.to T.frm (T.gas - intrN T) (natAt T.to) [] T.data).kind ≠ 3 → (cFr 0 false T.value T.to T.frm (T.gas - intrN T) (natAt T.to) [] T.data).kind ≠ 7 → (cFr 0 false T.value T.to T.frm (T.gas - intrN T) (natAt T.to) [] T.data).value ≤ (acctAt (entA1 (bS s T).now (cFr 0 false T.value T.to T.frm (T.gas - intrN T) (natAt T.to) [] T.data)) (cFr 0 false T.value T.to T.frm (T.gas - intrN T) (natAt T.to) [] T.data).caller).bal := by
                                                                        intro _ _
                                                                        show T.value ≤ (acctAt (bW s T).accts T.frm).bal
                                                                        rw [bA2_frm]
                                                                        omega
                                                                      have hov : (cFr 0 false T.value T.to T.frm (T.gas - intrN T) (natAt T.to) [] T.data).kind ≠ 3 → (cFr 0 false T.value T.to T.frm (T.gas - intrN T) (natAt T.to) [] T.data).kind ≠ 7 → (cFr 0 false T.value T.to T.frm (T.gas - intrN T) (natAt T.to) [] T.data).value ≠ 0 → (acctAt (takeB (entA1 (bS s T).now (cFr 0 false T.value T.to T.frm (T.gas - intrN T) (natAt T.to) [] T.data)) (cFr 0 false T.value T.to T.frm (T.gas - intrN T) (natAt T.to) [] T.data).caller (cFr 0 false T.value T.to T.frm (T.gas - intrN T) (natAt T.to) [] T.data).value) (cFr 0 false T.value T.to T.frm (T.gas - intrN T) (natAt T.to) [] T.data).self).bal + (cFr 0 false T.value T.to T.frm (T.gas - intrN T) (natAt T.to) [] T.data).value < W256 := by
                                                                        intro _ _ _
                                                                        refine (WI.bw hi vd).room (a := T.frm) (b := T.to) (v := T.value) ?_
                                                                        rw [bA2_frm]
                                                                        omega
                                                                      refine l_step (y_loadB agg_71 sz_71 (et (gS rfl g0) rfl) (by rw [List.size_toArray, fcv_len rfl]) (at1B k71)) ?_
                                                                      exact (by
                                                                        refine l_eff (e_callV cal_105 (aC (et (gS rfl g0) rfl) (aC (et g0 rfl) aN)) (m_enter hXT.ex (by show s.phase ≤ 1; omega) (Nat.zero_le _) (Nat.zero_le _) (u := (cFr 0 false T.value T.to T.frm (T.gas - intrN T) (natAt T.to) [] T.data)) hbc hbi hU rfl (c' := 0) (by show s.applied + 1 ≤ 4; have := vd.ap; omega) hmk hcc hht hhf hle hov hLq.lim hLq.mad ⟨hhf, hhc⟩)) (fun v102 w102 h102 => ?_)
                                                                        obtain ⟨rfl, cl102, cs102, V102, y102⟩ := h102
                                                                        replace G := G.chs y102.et.go.ch (by intro b hb; exact .inl trivial) (by intro q hq hh; have h9 := hX.vl.kept q hh; (have e0 := hq); omega)
                                                                        replace hF := G.fz
                                                                        replace k2 := k2.ch y102.et.go.ch (by intro hm; (have e0 := hm); omega)
                                                                        replace k5 := k5.ch y102.et.go.ch (by intro hm; (have e0 := hm); omega)
                                                                        replace k17 := k17.ch y102.et.go.ch (by intro hm; (have e0 := hm); omega)
                                                                        replace k71 := k71.ch y102.et.go.ch (by intro hm; (have e0 := hm); omega)
                                                                        replace hX := hX.trans y102.xr
                                                                        replace U := U.cc y102.et.go.ch (by intro b hb; exact .inl trivial)
                                                                        refine l_nil ?_
                                                                        refine hK101 _ _ ?_
                                                                        refine fg0 (fun g => ?_)
                                                                        refine c_seq (fun K103 hK103 => ?_)
                                                                        exact (by
                                                                          refine c_region ?_
                                                                          refine l_step y_assignC ?_
                                                                          refine l_nil ?_
                                                                          refine hK103 _ _ ?_
                                                                          refine c_ret ?_
                                                                          repeat with_reducible refine then_ret ?_
                                                                          refine ret1 rfl (res_tmp (et g0 rfl)) ?_
                                                                          have ebY : begY s T = entY { bS s T with phase := 1 } (cFr 0 false T.value T.to T.frm (T.gas - intrN T) (natAt T.to) [] T.data) := by
                                                                            unfold begY
                                                                            rw [if_neg (fun h9 => by have h8 := h9.1; rw [hcr] at h8; cases h8), ebf]
                                                                          rw [ebY]
                                                                          exact ⟨rfl, _, _, _, _, _, _, y102.ex, hX.et⟩)))))))))))))))))))))))))))))))))))
theorem e_openC {w : World} {H : Store} {col : Nat → Nat} {bc : Nat} {cs : Array Value} {V : EV} (hX : XR w H col w H col bc cs V []) (hF : Fz w H) {s : YSt} {tg hd : Option Nat} (hL : LO H cs bc (qOf s tg hd)) (hva : VA V (absY s.now) [] (slF s.now.accts)) (hi : II s) (hEI : EI V s) {txc : List Value} {T : YTx} (ht : TC H txc.toArray T) (htl : txc.length = 174) (hv0 : verdN s T = 0) (hcr : T.create = true) :
    Ret 35 [.pointer (some ⟨bc, 0, none⟩), .agg txc.toArray] w (fun v w' => v = .int .u8 (0 : Nat) ∧ XO w H col w' bc (begY s T) 0) := by
  have hph := hi.ph
  have hnw := hX.vl.new
  have hfz := hX.vl.fz
  have hcC := hX.vl.colC
  obtain ⟨bm9, cm9, nn9, hMA9⟩ := hX.mx
  have hmt : cs[10]? = some (.int .u8 (0 : Nat)) := hMA9.tp
  clear hMA9
  have henv : EC H cs 2260 s.env := hL.env
  have eo := henv.ok
  obtain ⟨tda, tdc, taa, tac, rT1, rT2, rT3, rT4, rT5, rT6, rT7, rT8, rT9, hTd, hTa⟩ := ht.ex
  have tok := ht.ok
  have to1 := tok.data
  have to2 := tok.access
  have vd := vd_of hv0
  have hgas := vd.gas
  have hap := vd.ap
  have hin := intr_ge T
  have hin2 := vd.intr
  have hEa := hEI.a
  have hEs := hEI.sl
  have hEj : V.journal.length = 0 := by rw [hEI.j]; rfl
  have hEt : V.temps.length = 0 := by rw [hEI.t]; rfl
  have hEm : V.marks.length = 0 := by rw [hEI.m]; rfl
  have hnm : T.nonce < 18446744073709551615 := by have h1 := vd.nmx; have h2 := vd.non; have h3 := tok.nonce; omega
  have hbW : (bSnd s T).bal < W256 := by have h9 := hX.vl.balt hX.ok T.frm; rw [hva.abs] at h9; exact h9
  have hfee := vd.fee
  have hgW : T.gas < W256 := Nat.lt_trans tok.gas (by decide)
  have hpW : priceN s T < W256 := Nat.lt_of_le_of_lt (price_le vd).1 (feeM_lt tok)
  have hhW : T.gas * priceN s T < W256 := by omega
  have hls1 : T.access.length ≤ 16 ∧ keysN T.access ≤ 64 := by have h9 := vd.ls; unfold lsOk at h9; simpa using h9
  obtain ⟨hls2, hls3⟩ := hls1
  have hdl := vd.data
  have hTg : bTgt s T = crtN T.frm T.nonce := by unfold bTgt; rw [if_pos hcr, vd.non]
  refine enter (n := 233) Hvaa.func35 rfl rfl (Nat.le_of_ble_eq_true rfl) ?_
  have U : Ch (fun _ => True) w w := Ch.refl _ w
  have G : Go (fun _ => True) w H w H := Go.refl hF
  have hL0 : Le H H := Le.refl H
  refine c_seq (fun K1 hK1 => ?_)
  exact (by
    refine c_region ?_
    refine l_eff (e_boxV (et (gS rfl g0) rfl)) (fun v2 w2 h2 => ?_)
    obtain ⟨b2, rfl, n2⟩ := h2
    have f2 : w.heap.size ≤ b2 := Nat.le_trans U.size n2.fresh
    have nb2 := hF.nb n2.fresh
    replace G := G.tr (Go.ofUp hF n2.up)
    replace hF := hF.up n2.up
    replace hX := hX.up n2.up
    replace U := U.tr n2.up
    have k2 := n2.blk
    replace k2 : Blk w2 b2 txc.toArray := k2
    have nc2 : col b2 = 0 := hnw _ f2
    refine l_step y_assignC ?_
    refine l_nil ?_
    refine hK1 _ _ ?_
    refine fg2 0 3 (gS rfl (gS rfl g0)) (gS rfl g0) (fun g => ?_)
    refine c_seq (fun K3 hK3 => ?_)
    exact (by
      refine c_region ?_
      refine l_step (y_moveV (et (gS rfl g0) rfl)) ?_
      refine l_step (y_loadB agg_41 sz_41 (et (gS rfl g0) rfl) (by rw [List.size_toArray]; exact htl) (at1B k2)) ?_
      refine l_eff (e_callV cal_90 (aC (et (gS rfl g0) rfl) (aC (et g0 rfl) aN)) (e_verdict hX.vl hX.ok hF hL hva hph ht htl)) (fun v4 w4 h4 => ?_)
      obtain ⟨H4, pr9, rfl, hp9, g4⟩ := h4
      have hXn4 := hX.gn g4
      have hlew4 := g4.le
      replace nb2 := g4.nb nb2 k2.lt
      replace hL0 := hL0.trans hlew4
      replace k2 := k2.up g4.up
      replace hX := hX.up g4.up
      replace U := U.tr g4.up
      replace G := G.tr g4
      replace hF := g4.fz
      obtain rfl : pr9 = priceN s T := hp9 hv0
      replace hX := hXn4
      replace hL := hL.mono g4.le
      refine l_step (y_moveV (et g0 rfl)) ?_
      refine l_step (y_ext (et g0 rfl) rfl) ?_
      refine l_step (y_ext (et (gS rfl g0) rfl) rfl) ?_
      refine l_eff (e_alloc zr_65) (fun v5 w5 h5 => ?_)
      obtain ⟨b5, rfl, n5⟩ := h5
      have d2_5 : b2 < b5 := Nat.lt_of_lt_of_le k2.lt n5.fresh
      have f5 : w.heap.size ≤ b5 := Nat.le_trans U.size n5.fresh
      have nb5 := hF.nb n5.fresh
      replace G := G.tr (Go.ofUp hF n5.up)
      replace hF := hF.up n5.up
      replace k2 := k2.up n5.up
      replace hX := hX.up n5.up
      replace U := U.tr n5.up
      have k5 := n5.blk
      replace k5 : Blk w5 b5 (wL 0).toArray := k5
      have nc5 : col b5 = 0 := hnw _ f5
      exact (by
        refine l_step (y_assignV (et (gS rfl (gS rfl g0)) rfl)) ?_
        refine l_effN (e_store sz_65 (et (gS rfl g0) rfl) (cellsV (et (gS rfl (gS rfl g0)) rfl) rfl) rfl (by exact one_uL _) k5 (by exact Nat.le_of_ble_eq_true rfl)) (fun v6 w6 h6 => ?_)
        obtain ⟨rfl, x6⟩ := h6
        replace k2 := k2.ch x6.ch (by omega)
        replace hX := hX.ch x6.ch (by first | omega | (intro b hb; first | (subst hb; first | exact ⟨by omega, fun hh => by have := hfz.lt hh; omega, by omega⟩ | exact ⟨by omega, by assumption, by omega⟩) | (rcases hb with hb | hb <;> (subst hb; first | exact ⟨by omega, fun hh => by have := hfz.lt hh; omega, by omega⟩ | exact ⟨by omega, by assumption, by omega⟩))))
        replace k5 := x6.blk.full rfl
        replace G := G.wr x6 (by first | exact .inr f5 | omega | (simp; omega)) nb5
        replace hF := G.fz
        replace U := U.st x6 (.inr f5)
        refine l_nil ?_
        refine hK3 _ _ ?_
        refine fg4 0 3 6 5 (gS rfl (gS rfl (gS rfl (gS rfl (gS rfl (gS rfl (gS rfl (gS rfl (gS rfl g0))))))))) (gS rfl (gS rfl (gS rfl (gS rfl (gS rfl (gS rfl (gS rfl (gS rfl g0)))))))) (gS rfl g0) g0 (fun g => ?_)
        refine c_seq (fun K7 hK7 => ?_)
        refine c_seq (fun K8 hK8 => ?_)
        exact (by
          refine c_region ?_
          refine l_step (y_moveV (et g0 rfl)) ?_
          refine l_step (y_neq (et g0 rfl) rfl) ?_
          refine l_nil ?_
          refine hK8 _ _ ?_
          refine fg5 0 3 6 5 20 (gS rfl (gS rfl (gS rfl (gS rfl (gS rfl g0))))) (gS rfl (gS rfl (gS rfl (gS rfl g0)))) (gS rfl (gS rfl (gS rfl g0))) (gS rfl (gS rfl g0)) g0 (fun g => ?_)
          refine c_false (et g0 rfl) (by (rw [hv0]; rfl)) ?_
          refine c_skip ?_
          refine hK7 _ _ ?_
          refine fg3 0 3 6 (gS rfl (gS rfl (gS rfl (gS rfl g0)))) (gS rfl (gS rfl (gS rfl g0))) (gS rfl (gS rfl g0)) (fun g => ?_)
          refine c_seq (fun K10 hK10 => ?_)
          refine c_seq (fun K11 hK11 => ?_)
          exact (by
            refine c_region ?_
            refine l_step (y_moveV (et (gS rfl (gS rfl g0)) rfl)) ?_
            refine l_eff (e_callV cal_91 (aC (et g0 rfl) aN) (e_spacious hX.vl hX.ok hL hmt (by omega) (by omega) (by omega) (by omega))) (fun v12 w12 h12 => ?_)
            obtain ⟨rfl, u12⟩ := h12
            replace G := G.tr (Go.ofUp hF u12)
            replace hF := hF.up u12
            replace k2 := k2.up u12
            replace k5 := k5.up u12
            replace hX := hX.up u12
            replace U := U.tr u12
            refine l_step (y_not (et g0 rfl)) ?_
            refine l_nil ?_
            refine hK11 _ _ ?_
            refine fg4 0 3 6 24 (gS rfl (gS rfl (gS rfl (gS rfl (gS rfl g0))))) (gS rfl (gS rfl (gS rfl (gS rfl g0)))) (gS rfl (gS rfl (gS rfl g0))) g0 (fun g => ?_)
            refine c_false (et g0 rfl) (by rfl) ?_
            refine c_skip ?_
            refine hK10 _ _ ?_
            refine fg3 0 3 6 (gS rfl (gS rfl (gS rfl g0))) (gS rfl (gS rfl g0)) (gS rfl g0) (fun g => ?_)
            refine c_seq (fun K14 hK14 => ?_)
            exact (by
              refine c_region ?_
              refine l_step (y_moveV (et (gS rfl (gS rfl g0)) rfl)) ?_
              refine l_step (y_nil (et g0 rfl)) ?_
              refine l_step (y_fld fld_75_0 (et g0 rfl)) ?_
              refine l_step (y_load1 one_59 (et g0 rfl) (at1 (hX.vl.c1 hL.pS rfl))) ?_
              refine l_eff (e_callV cal_92 (aC (et g0 rfl) aN) (v_sizes hX.vl hX.ok)) (fun v15 w15 h15 => ?_)
              obtain ⟨rfl, u15⟩ := h15
              replace G := G.tr (Go.ofUp hF u15)
              replace hF := hF.up u15
              replace k2 := k2.up u15
              replace k5 := k5.up u15
              replace hX := hX.up u15
              replace U := U.tr u15
              refine l_step (y_moveV (et g0 rfl)) ?_
              refine l_step (y_ext (et g0 rfl) rfl) ?_
              refine l_step (y_ext (et (gS rfl g0) rfl) rfl) ?_
              refine l_step (y_ext (et (gS rfl (gS rfl g0)) rfl) rfl) ?_
              refine l_step (y_ext (et (gS rfl (gS rfl (gS rfl g0))) rfl) rfl) ?_
              refine l_step (y_assignV (et (gS rfl (gS rfl (gS rfl g0))) rfl)) ?_
              refine l_step (y_assignV (et (gS rfl (gS rfl (gS rfl g0))) rfl)) ?_
              refine l_step (y_assignV (et (gS rfl (gS rfl (gS rfl g0))) rfl)) ?_
              refine l_step (y_assignV (et (gS rfl (gS rfl (gS rfl g0))) rfl)) ?_
              refine l_nil ?_
              refine hK14 _ _ ?_
              refine fg6 0 3 6 7 8 10 (gS rfl (gS rfl (gS rfl (gS rfl (gS rfl (gS rfl (gS rfl (gS rfl (gS rfl (gS rfl (gS rfl (gS rfl (gS rfl (gS rfl (gS rfl (gS rfl g0)))))))))))))))) (gS rfl (gS rfl (gS rfl (gS rfl (gS rfl (gS rfl (gS rfl (gS rfl (gS rfl (gS rfl (gS rfl (gS rfl (gS rfl (gS rfl (gS rfl g0))))))))))))))) (gS rfl (gS rfl (gS rfl (gS rfl (gS rfl (gS rfl (gS rfl (gS rfl (gS rfl (gS rfl (gS rfl (gS rfl (gS rfl (gS rfl g0)))))))))))))) (gS rfl (gS rfl (gS rfl g0))) (gS rfl (gS rfl g0)) g0 (fun g => ?_)
              refine c_seq (fun K16 hK16 => ?_)
              exact (by
                refine c_region ?_
                refine l_step (y_fld fld_41_1 (et (gS rfl (gS rfl (gS rfl (gS rfl g0)))) rfl)) ?_
                refine l_step (y_loadR agg_25 sz_25 (et g0 rfl) (by rw [length_bL, length_be]) (at1R (k2.row rT2))) ?_
                refine l_eff (e_alloc zr_25) (fun v17 w17 h17 => ?_)
                obtain ⟨b17, rfl, n17⟩ := h17
                have d2_17 : b2 < b17 := Nat.lt_of_lt_of_le k2.lt n17.fresh
                have d5_17 : b5 < b17 := Nat.lt_of_lt_of_le k5.lt n17.fresh
                have f17 : w.heap.size ≤ b17 := Nat.le_trans U.size n17.fresh
                have nb17 := hF.nb n17.fresh
                replace G := G.tr (Go.ofUp hF n17.up)
                replace hF := hF.up n17.up
                replace k2 := k2.up n17.up
                replace k5 := k5.up n17.up
                replace hX := hX.up n17.up
                replace U := U.tr n17.up
                have k17 := n17.blk
                have nc17 : col b17 = 0 := hnw _ f17
                refine l_effN (e_store sz_25 (et g0 rfl) (cellsV (et (gS rfl g0) rfl) rfl) (by rw [length_bL, length_be]) (by exact one_bL _) k17 (by exact Nat.le_of_ble_eq_true rfl)) (fun v18 w18 h18 => ?_)
                obtain ⟨rfl, x18⟩ := h18
                replace k2 := k2.ch x18.ch (by omega)
                replace k5 := k5.ch x18.ch (by omega)
                replace hX := hX.ch x18.ch (by first | omega | (intro b hb; first | (subst hb; first | exact ⟨by omega, fun hh => by have := hfz.lt hh; omega, by omega⟩ | exact ⟨by omega, by assumption, by omega⟩) | (rcases hb with hb | hb <;> (subst hb; first | exact ⟨by omega, fun hh => by have := hfz.lt hh; omega, by omega⟩ | exact ⟨by omega, by assumption, by omega⟩))))
                replace k17 := x18.blk.full (by rw [length_bL, length_be]; rfl)
                replace G := G.wr x18 (by first | exact .inr f17 | omega | (simp; omega)) nb17
                replace hF := G.fz
                replace U := U.st x18 (.inr f17)
                refine l_nil ?_
                refine hK16 _ _ ?_
                refine fg7 0 3 6 7 8 10 11 (gS rfl (gS rfl (gS rfl (gS rfl (gS rfl (gS rfl (gS rfl (gS rfl g0)))))))) (gS rfl (gS rfl (gS rfl (gS rfl (gS rfl (gS rfl (gS rfl g0))))))) (gS rfl (gS rfl (gS rfl (gS rfl (gS rfl (gS rfl g0)))))) (gS rfl (gS rfl (gS rfl (gS rfl (gS rfl g0))))) (gS rfl (gS rfl (gS rfl (gS rfl g0)))) (gS rfl (gS rfl (gS rfl g0))) g0 (fun g => ?_)
                refine c_seq (fun K19 hK19 => ?_)
                exact (by
                  refine c_region ?_
                  refine l_step (y_moveV (et (gS rfl (gS rfl (gS rfl (gS rfl (gS rfl (gS rfl g0)))))) rfl)) ?_
                  refine l_step (y_bld bN bld25_z) ?_
                  refine l_step (y_nil (et (gS rfl g0) rfl)) ?_
                  refine l_step (y_fld fld_75_17 (et g0 rfl)) ?_
                  refine l_effN (e_store sz_25 (et g0 rfl) (cellsV (et (gS rfl (gS rfl g0)) rfl) rfl) (by rw [length_bL, length_be]) (by exact one_bL _) hX.vl.kC (by rw [hX.vl.size]; omega)) (fun v20 w20 h20 => ?_)
                  obtain ⟨rfl, x20⟩ := h20
                  have hv20 := hX.st x20 (by decide) (by rw [length_bL, length_be]; decide)
                  replace G := G.chs x20.ch (by intro b hb; exact .inl trivial) (by intro q hq hh; have h9 := hX.vl.kept q hh; rw [hq] at h9; omega)
                  replace hF := G.fz
                  replace k2 := k2.ch x20.ch (by intro hm; first | omega | (subst hm; omega))
                  replace k5 := k5.ch x20.ch (by intro hm; first | omega | (subst hm; omega))
                  replace k17 := k17.ch x20.ch (by intro hm; first | omega | (subst hm; omega))
                  replace hX := hv20
                  replace U := U.cc x20.ch (by intro b hb; exact .inl trivial)
                  replace hL := (show LO _ _ bc ⟨s.ret, s.env, s.origin, s.price, s.phase, s.status, s.applied, s.limit, tg, hd, 0⟩ from hL.stMd 0)
                  refine l_nil ?_
                  refine hK19 _ _ ?_
                  refine fg7 0 3 6 7 8 10 11 (gS rfl (gS rfl (gS rfl (gS rfl (gS rfl (gS rfl (gS rfl (gS rfl (gS rfl (gS rfl g0)))))))))) (gS rfl (gS rfl (gS rfl (gS rfl (gS rfl (gS rfl (gS rfl (gS rfl (gS rfl g0))))))))) (gS rfl (gS rfl (gS rfl (gS rfl (gS rfl (gS rfl (gS rfl (gS rfl g0)))))))) (gS rfl (gS rfl (gS rfl (gS rfl (gS rfl (gS rfl (gS rfl g0))))))) (gS rfl (gS rfl (gS rfl (gS rfl (gS rfl (gS rfl g0)))))) (gS rfl (gS rfl (gS rfl (gS rfl (gS rfl g0))))) (gS rfl (gS rfl (gS rfl (gS rfl g0)))) (fun g => ?_)
                  refine c_seq (fun K21 hK21 => ?_)
                  refine c_seq (fun K22 hK22 => ?_)
                  exact (by
                    refine c_region ?_
                    refine l_step (y_fld fld_41_2 (et (gS rfl (gS rfl (gS rfl (gS rfl (gS rfl g0))))) rfl)) ?_
                    refine l_step (y_load1 one_4 (et g0 rfl) (at1 (k2.cell (rT3 0 _ rfl)))) ?_
                    refine l_nil ?_
                    refine hK22 _ _ ?_
                    refine fg8 0 3 6 7 8 10 11 42 (gS rfl (gS rfl (gS rfl (gS rfl (gS rfl (gS rfl (gS rfl (gS rfl g0)))))))) (gS rfl (gS rfl (gS rfl (gS rfl (gS rfl (gS rfl (gS rfl g0))))))) (gS rfl (gS rfl (gS rfl (gS rfl (gS rfl (gS rfl g0)))))) (gS rfl (gS rfl (gS rfl (gS rfl (gS rfl g0))))) (gS rfl (gS rfl (gS rfl (gS rfl g0)))) (gS rfl (gS rfl (gS rfl g0))) (gS rfl (gS rfl g0)) g0 (fun g => ?_)
                    refine c_true (et g0 rfl) (by (exact hcr)) ?_
                    refine c_seq (fun K24 hK24 => ?_)
                    exact (by
                      refine c_region ?_
                      refine l_step (y_fld fld_41_0 (et (gS rfl (gS rfl (gS rfl (gS rfl (gS rfl (gS rfl g0)))))) rfl)) ?_
                      refine l_step (y_loadR agg_25 sz_25 (et g0 rfl) (by rw [length_bL, length_be]) (at1R (k2.row rT1))) ?_
                      refine l_step (y_fld fld_41_3 (et (gS rfl (gS rfl (gS rfl (gS rfl (gS rfl (gS rfl (gS rfl (gS rfl g0)))))))) rfl)) ?_
                      refine l_step (y_load1 one_26 (et g0 rfl) (at1 (k2.cell (rT3 1 _ rfl)))) ?_
                      refine l_eff (e_callV cal_93 (aC (et (gS rfl (gS rfl g0)) rfl) (aC (et g0 rfl) aN)) (m_createAddr _ _ _ tok.frm tok.nonce)) (fun v25 w25 h25 => ?_)
                      obtain ⟨rfl, u25⟩ := h25
                      replace G := G.tr (Go.ofUp hF u25)
                      replace hF := hF.up u25
                      replace k2 := k2.up u25
                      replace k5 := k5.up u25
                      replace k17 := k17.up u25
                      replace hX := hX.up u25
                      replace U := U.tr u25
                      refine l_effN (e_store sz_25 (et (gS rfl (gS rfl (gS rfl (gS rfl (gS rfl (gS rfl g0)))))) rfl) (cellsV (et g0 rfl) rfl) (by rw [length_bL, length_be]) (by exact one_bL _) k17 (by (rw [List.size_toArray, length_bL, length_be]; decide))) (fun v26 w26 h26 => ?_)
                      obtain ⟨rfl, x26⟩ := h26
                      replace k2 := k2.ch x26.ch (by omega)
                      replace k5 := k5.ch x26.ch (by omega)
                      replace hX := hX.ch x26.ch (by first | omega | (intro b hb; first | (subst hb; first | exact ⟨by omega, fun hh => by have := hfz.lt hh; omega, by omega⟩ | exact ⟨by omega, by assumption, by omega⟩) | (rcases hb with hb | hb <;> (subst hb; first | exact ⟨by omega, fun hh => by have := hfz.lt hh; omega, by omega⟩ | exact ⟨by omega, by assumption, by omega⟩))))
                      replace k17 := x26.blk.full (by rw [length_bL, length_be, List.size_toArray, length_bL, length_be])
                      replace G := G.wr x26 (by first | exact .inr f17 | omega | (simp; omega)) nb17
                      replace hF := G.fz
                      replace U := U.st x26 (.inr f17)
                      refine l_nil ?_
                      refine hK24 _ _ ?_
                      refine fg7 0 3 6 7 8 10 11 (gS rfl (gS rfl (gS rfl (gS rfl (gS rfl (gS rfl (gS rfl (gS rfl (gS rfl (gS rfl (gS rfl (gS rfl g0)))))))))))) (gS rfl (gS rfl (gS rfl (gS rfl (gS rfl (gS rfl (gS rfl (gS rfl (gS rfl (gS rfl (gS rfl g0))))))))))) (gS rfl (gS rfl (gS rfl (gS rfl (gS rfl (gS rfl (gS rfl (gS rfl (gS rfl (gS rfl g0)))))))))) (gS rfl (gS rfl (gS rfl (gS rfl (gS rfl (gS rfl (gS rfl (gS rfl (gS rfl g0))))))))) (gS rfl (gS rfl (gS rfl (gS rfl (gS rfl (gS rfl (gS rfl (gS rfl g0)))))))) (gS rfl (gS rfl (gS rfl (gS rfl (gS rfl (gS rfl (gS rfl g0))))))) (gS rfl (gS rfl (gS rfl (gS rfl (gS rfl (gS rfl g0)))))) (fun g => ?_)
                      refine c_region ?_
                      refine l_step (y_moveV (et (gS rfl (gS rfl (gS rfl (gS rfl (gS rfl (gS rfl g0)))))) rfl)) ?_
                      refine l_step (y_loadB agg_25 sz_25 (et (gS rfl g0) rfl) (by rw [List.size_toArray, length_bL, length_be]) (at1B k17)) ?_
                      refine l_step (y_nil (et (gS rfl g0) rfl)) ?_
                      refine l_step (y_fld fld_75_17 (et g0 rfl)) ?_
                      exact (by
                        refine l_effN (e_store sz_25 (et g0 rfl) (cellsV (et (gS rfl (gS rfl g0)) rfl) rfl) (by rw [length_bL, length_be]) (by exact one_bL _) hX.vl.kC (by rw [hX.vl.size]; omega)) (fun v27 w27 h27 => ?_)
                        obtain ⟨rfl, x27⟩ := h27
                        have hv27 := hX.st x27 (by decide) (by rw [length_bL, length_be]; decide)
                        replace G := G.chs x27.ch (by intro b hb; exact .inl trivial) (by intro q hq hh; have h9 := hX.vl.kept q hh; rw [hq] at h9; omega)
                        replace hF := G.fz
                        replace k2 := k2.ch x27.ch (by intro hm; first | omega | (subst hm; omega))
                        replace k5 := k5.ch x27.ch (by intro hm; first | omega | (subst hm; omega))
                        replace k17 := k17.ch x27.ch (by intro hm; first | omega | (subst hm; omega))
                        replace hX := hv27
                        replace U := U.cc x27.ch (by intro b hb; exact .inl trivial)
                        replace hL := (show LO _ _ bc ⟨s.ret, s.env, s.origin, s.price, s.phase, s.status, s.applied, s.limit, tg, hd, (crtN T.frm T.nonce)⟩ from hL.stMd (crtN T.frm T.nonce))
                        refine l_nil ?_
                        refine hK21 _ _ ?_
                        refine fg7 0 3 6 7 8 10 11 (gS rfl (gS rfl (gS rfl (gS rfl (gS rfl (gS rfl (gS rfl (gS rfl (gS rfl (gS rfl g0)))))))))) (gS rfl (gS rfl (gS rfl (gS rfl (gS rfl (gS rfl (gS rfl (gS rfl (gS rfl g0))))))))) (gS rfl (gS rfl (gS rfl (gS rfl (gS rfl (gS rfl (gS rfl (gS rfl g0)))))))) (gS rfl (gS rfl (gS rfl (gS rfl (gS rfl (gS rfl (gS rfl g0))))))) (gS rfl (gS rfl (gS rfl (gS rfl (gS rfl (gS rfl g0)))))) (gS rfl (gS rfl (gS rfl (gS rfl (gS rfl g0))))) (gS rfl (gS rfl (gS rfl (gS rfl g0)))) (fun g => ?_)
                        refine c_seq (fun K28 hK28 => ?_)
                        exact (by
                          refine c_region ?_
                          refine l_step (y_moveV (et (gS rfl (gS rfl (gS rfl (gS rfl (gS rfl (gS rfl g0)))))) rfl)) ?_
                          refine l_step (y_moveV (et (gS rfl (gS rfl (gS rfl (gS rfl g0)))) rfl)) ?_
                          refine l_step (y_nil (et (gS rfl g0) rfl)) ?_
                          refine l_step (y_fld fld_75_15 (et g0 rfl)) ?_
                          refine l_effN (e_store sz_21 (et g0 rfl) (cellsV (et (gS rfl (gS rfl g0)) rfl) rfl) rfl (by intro v hv; simp at hv; subst hv; rfl) hX.vl.kC (by rw [hX.vl.size]; omega)) (fun v29 w29 h29 => ?_)
                          obtain ⟨rfl, x29⟩ := h29
                          have hv29 := hX.st x29 (by decide) (Nat.le_of_ble_eq_true rfl)
                          replace G := G.chs x29.ch (by intro b hb; exact .inl trivial) (by intro q hq hh; have h9 := hX.vl.kept q hh; rw [hq] at h9; omega)
                          replace hF := G.fz
                          replace k2 := k2.ch x29.ch (by intro hm; first | omega | (subst hm; omega))
                          replace k5 := k5.ch x29.ch (by intro hm; first | omega | (subst hm; omega))
                          replace k17 := k17.ch x29.ch (by intro hm; first | omega | (subst hm; omega))
                          replace hX := hv29
                          replace U := U.cc x29.ch (by intro b hb; exact .inl trivial)
                          replace hL := (show LO _ _ bc ⟨s.ret, s.env, s.origin, s.price, s.phase, s.status, s.applied, s.limit, tg, hd, (crtN T.frm T.nonce)⟩ from hL.stA0 (.int .i32 (V.accts.length : Nat)))
                          refine l_nil ?_
                          refine hK28 _ _ ?_
                          refine fg6 0 3 6 8 10 11 (gS rfl (gS rfl (gS rfl (gS rfl (gS rfl (gS rfl (gS rfl (gS rfl (gS rfl (gS rfl g0)))))))))) (gS rfl (gS rfl (gS rfl (gS rfl (gS rfl (gS rfl (gS rfl (gS rfl (gS rfl g0))))))))) (gS rfl (gS rfl (gS rfl (gS rfl (gS rfl (gS rfl (gS rfl (gS rfl g0)))))))) (gS rfl (gS rfl (gS rfl (gS rfl (gS rfl (gS rfl g0)))))) (gS rfl (gS rfl (gS rfl (gS rfl (gS rfl g0))))) (gS rfl (gS rfl (gS rfl (gS rfl g0)))) (fun g => ?_)
                          refine c_seq (fun K30 hK30 => ?_)
                          exact (by
                            refine c_region ?_
                            refine l_step (y_moveV (et (gS rfl (gS rfl (gS rfl (gS rfl (gS rfl g0))))) rfl)) ?_
                            refine l_step (y_moveV (et (gS rfl (gS rfl (gS rfl g0))) rfl)) ?_
                            refine l_step (y_nil (et (gS rfl g0) rfl)) ?_
                            refine l_step (y_fld fld_75_16 (et g0 rfl)) ?_
                            refine l_effN (e_store sz_21 (et g0 rfl) (cellsV (et (gS rfl (gS rfl g0)) rfl) rfl) rfl (by intro v hv; simp at hv; subst hv; rfl) hX.vl.kC (by rw [hX.vl.size]; omega)) (fun v31 w31 h31 => ?_)
                            obtain ⟨rfl, x31⟩ := h31
                            have hv31 := hX.st x31 (by decide) (Nat.le_of_ble_eq_true rfl)
                            replace G := G.chs x31.ch (by intro b hb; exact .inl trivial) (by intro q hq hh; have h9 := hX.vl.kept q hh; rw [hq] at h9; omega)
                            replace hF := G.fz
                            replace k2 := k2.ch x31.ch (by intro hm; first | omega | (subst hm; omega))
                            replace k5 := k5.ch x31.ch (by intro hm; first | omega | (subst hm; omega))
                            replace k17 := k17.ch x31.ch (by intro hm; first | omega | (subst hm; omega))
                            replace hX := hv31
                            replace U := U.cc x31.ch (by intro b hb; exact .inl trivial)
                            replace hL := (show LO _ _ bc ⟨s.ret, s.env, s.origin, s.price, s.phase, s.status, s.applied, s.limit, tg, hd, (crtN T.frm T.nonce)⟩ from hL.stS0 (.int .i32 (V.slots.length : Nat)))
                            refine l_nil ?_
                            refine hK30 _ _ ?_
                            refine fg5 0 3 6 10 11 (gS rfl (gS rfl (gS rfl (gS rfl (gS rfl (gS rfl (gS rfl (gS rfl (gS rfl g0))))))))) (gS rfl (gS rfl (gS rfl (gS rfl (gS rfl (gS rfl (gS rfl (gS rfl g0)))))))) (gS rfl (gS rfl (gS rfl (gS rfl (gS rfl (gS rfl (gS rfl g0))))))) (gS rfl (gS rfl (gS rfl (gS rfl (gS rfl g0))))) (gS rfl (gS rfl (gS rfl (gS rfl g0)))) (fun g => ?_)
                            refine c_seq (fun K32 hK32 => ?_)
                            exact (by
                              refine c_region ?_
                              refine l_step (y_moveV (et (gS rfl (gS rfl (gS rfl (gS rfl g0)))) rfl)) ?_
                              refine l_step (y_nil (et g0 rfl)) ?_
                              refine l_step (y_fld fld_75_11 (et g0 rfl)) ?_
                              refine l_step (y_load1 one_5 (et g0 rfl) (at1 (hX.vl.c1 (show _ = some (.int .u8 (s.applied : Nat)) from hL.app) rfl))) ?_
                              refine l_step (y_add (et g0 rfl) rfl (wrapU_addN (b := 1) uk8 ?_)) ?_
                              (have := vd.ap; omega)
                              refine l_step (y_nil (et (gS rfl (gS rfl (gS rfl (gS rfl g0)))) rfl)) ?_
                              refine l_step (y_fld fld_75_11 (et g0 rfl)) ?_
                              refine l_effN (e_store sz_5 (et g0 rfl) (cellsV (et (gS rfl (gS rfl g0)) rfl) rfl) rfl (by intro v hv; simp at hv; subst hv; rfl) hX.vl.kC (by rw [hX.vl.size]; omega)) (fun v33 w33 h33 => ?_)
                              obtain ⟨rfl, x33⟩ := h33
                              have hv33 := hX.st x33 (by decide) (Nat.le_of_ble_eq_true rfl)
                              replace G := G.chs x33.ch (by intro b hb; exact .inl trivial) (by intro q hq hh; have h9 := hX.vl.kept q hh; rw [hq] at h9; omega)
                              replace hF := G.fz
                              replace k2 := k2.ch x33.ch (by intro hm; first | omega | (subst hm; omega))
                              replace k5 := k5.ch x33.ch (by intro hm; first | omega | (subst hm; omega))
                              replace k17 := k17.ch x33.ch (by intro hm; first | omega | (subst hm; omega))
                              replace hX := hv33
                              replace U := U.cc x33.ch (by intro b hb; exact .inl trivial)
                              replace hL := (show LO _ _ bc ⟨s.ret, s.env, s.origin, s.price, s.phase, s.status, s.applied + 1, s.limit, tg, hd, (crtN T.frm T.nonce)⟩ from hL.stAp (s.applied + 1))
                              refine l_nil ?_
                              refine hK32 _ _ ?_
                              refine fg5 0 3 6 10 11 (gS rfl (gS rfl (gS rfl (gS rfl (gS rfl (gS rfl (gS rfl (gS rfl (gS rfl (gS rfl (gS rfl g0))))))))))) (gS rfl (gS rfl (gS rfl (gS rfl (gS rfl (gS rfl (gS rfl (gS rfl (gS rfl (gS rfl g0)))))))))) (gS rfl (gS rfl (gS rfl (gS rfl (gS rfl (gS rfl (gS rfl (gS rfl (gS rfl g0))))))))) (gS rfl (gS rfl (gS rfl (gS rfl (gS rfl (gS rfl (gS rfl (gS rfl g0)))))))) (gS rfl (gS rfl (gS rfl (gS rfl (gS rfl (gS rfl (gS rfl g0))))))) (fun g => ?_)
                              refine c_seq (fun K34 hK34 => ?_)
                              exact (by
                                refine c_region ?_
                                refine l_step (y_moveV (et (gS rfl (gS rfl (gS rfl (gS rfl g0)))) rfl)) ?_
                                refine l_step (y_fld fld_41_4 (et (gS rfl (gS rfl (gS rfl (gS rfl g0)))) rfl)) ?_
                                refine l_step (y_load1 one_26 (et g0 rfl) (at1 (k2.cell (rT3 2 _ rfl)))) ?_
                                refine l_step (y_nil (et (gS rfl (gS rfl g0)) rfl)) ?_
                                refine l_step (y_fld fld_75_12 (et g0 rfl)) ?_
                                refine l_effN (e_store sz_26 (et g0 rfl) (cellsV (et (gS rfl (gS rfl g0)) rfl) rfl) rfl (by intro v hv; simp at hv; subst hv; rfl) hX.vl.kC (by rw [hX.vl.size]; omega)) (fun v35 w35 h35 => ?_)
                                obtain ⟨rfl, x35⟩ := h35
                                have hv35 := hX.st x35 (by decide) (Nat.le_of_ble_eq_true rfl)
                                replace G := G.chs x35.ch (by intro b hb; exact .inl trivial) (by intro q hq hh; have h9 := hX.vl.kept q hh; rw [hq] at h9; omega)
                                replace hF := G.fz
                                replace k2 := k2.ch x35.ch (by intro hm; first | omega | (subst hm; omega))
                                replace k5 := k5.ch x35.ch (by intro hm; first | omega | (subst hm; omega))
                                replace k17 := k17.ch x35.ch (by intro hm; first | omega | (subst hm; omega))
                                replace hX := hv35
                                replace U := U.cc x35.ch (by intro b hb; exact .inl trivial)
                                replace hL := (show LO _ _ bc ⟨s.ret, s.env, s.origin, s.price, s.phase, s.status, s.applied + 1, T.gas, tg, hd, (crtN T.frm T.nonce)⟩ from hL.stLi T.gas)
                                refine l_nil ?_
                                refine hK34 _ _ ?_
                                refine fg5 0 3 6 10 11 (gS rfl (gS rfl (gS rfl (gS rfl (gS rfl (gS rfl (gS rfl (gS rfl (gS rfl g0))))))))) (gS rfl (gS rfl (gS rfl (gS rfl (gS rfl (gS rfl (gS rfl (gS rfl g0)))))))) (gS rfl (gS rfl (gS rfl (gS rfl (gS rfl (gS rfl (gS rfl g0))))))) (gS rfl (gS rfl (gS rfl (gS rfl (gS rfl (gS rfl g0)))))) (gS rfl (gS rfl (gS rfl (gS rfl (gS rfl g0))))) (fun g => ?_)
                                refine c_seq (fun K36 hK36 => ?_)
                                exact (by
                                  refine c_draw Up 8 [(0, true), (1, true), (2, true), (3, true), (4, false), (5, true), (6, true), (7, true), (8, false)] (by kernel_rfl) (fun w37 hu => ⟨Up.refl _, ?_⟩)
                                  replace G := G.tr (Go.ofUp hF hu)
                                  replace hF := hF.up hu
                                  replace k2 := k2.up hu
                                  replace k5 := k5.up hu
                                  replace k17 := k17.up hu
                                  replace hX := hX.up hu
                                  replace U := U.tr hu
                                  have SU := Up.refl w37
                                  refine p_step (by exact rfl) (y_moveV (et (gS rfl (gS rfl (gS rfl (gS rfl g0)))) rfl)) ?_
                                  refine p_step (by exact rfl) (y_fld fld_41_4 (et (gS rfl (gS rfl (gS rfl (gS rfl g0)))) rfl)) ?_
                                  refine p_step (by exact rfl) (y_load1 one_26 (et g0 rfl) (atS (k2.cell (rT3 2 _ rfl)))) ?_
                                  refine p_step (by exact rfl) (y_loadB agg_41 sz_41 (et (gS rfl (gS rfl (gS rfl (gS rfl (gS rfl (gS rfl g0)))))) rfl) (by rw [List.size_toArray]; exact htl) (atSB k2)) ?_
                                  refine p_eff (by exact rfl) (e_callV cal_94 (aC (et g0 rfl) aN) (mach_intrinsic hF (ht.mono hL0) vd.data vd.ls)) (fun v38 w38 h38 => ?_)
                                  obtain ⟨rfl, u38⟩ := h38
                                  replace G := G.tr (Go.ofUp hF u38)
                                  replace hF := hF.up u38
                                  replace k2 := k2.up u38
                                  replace k5 := k5.up u38
                                  replace k17 := k17.up u38
                                  replace hX := hX.up u38
                                  replace U := U.tr u38
                                  refine ⟨.inr (SU.tr u38), ?_⟩
                                  replace SU := SU.tr u38
                                  refine p_step (by exact rfl) (y_sub (et (gS rfl (gS rfl g0)) rfl) (et g0 rfl) (wrapU_subN uk64 ?_ ?_)) ?_
                                  exact vd.intr
                                  (have := vd.gas; omega)
                                  refine p_step (by exact rfl) (y_nil (et (gS rfl (gS rfl (gS rfl (gS rfl (gS rfl g0))))) rfl)) ?_
                                  refine p_step (by exact rfl) (y_fld fld_75_13 (et g0 rfl)) ?_
                                  refine p_effN (by exact rfl) (e_store sz_26 (et g0 rfl) (cellsV (et (gS rfl (gS rfl g0)) rfl) rfl) rfl (by intro v hv; simp at hv; subst hv; rfl) hX.vl.kC (by rw [hX.vl.size]; omega)) (fun v39 w39 h39 => ?_)
                                  obtain ⟨rfl, x39⟩ := h39
                                  have hv39 := hX.st x39 (by decide) (Nat.le_of_ble_eq_true rfl)
                                  replace G := G.chs x39.ch (by intro b hb; exact .inl trivial) (by intro q hq hh; have h9 := hX.vl.kept q hh; rw [hq] at h9; omega)
                                  replace hF := G.fz
                                  replace k2 := k2.ch x39.ch (by intro hm; first | omega | (subst hm; omega))
                                  replace k5 := k5.ch x39.ch (by intro hm; first | omega | (subst hm; omega))
                                  replace k17 := k17.ch x39.ch (by intro hm; first | omega | (subst hm; omega))
                                  replace hX := hv39
                                  replace U := U.cc x39.ch (by intro b hb; exact .inl trivial)
                                  replace hL := (show LO _ _ bc ⟨s.ret, s.env, s.origin, s.price, s.phase, s.status, s.applied + 1, T.gas, some (T.gas - intrN T), hd, (crtN T.frm T.nonce)⟩ from hL.stTg (T.gas - intrN T))
                                  refine ⟨.inl rfl, ?_⟩
                                  refine p_nil ?_
                                  refine hK36 _ _ ?_
                                  refine fg5 0 3 6 10 11 (gS rfl (gS rfl (gS rfl (gS rfl (gS rfl (gS rfl (gS rfl (gS rfl (gS rfl (gS rfl (gS rfl (gS rfl g0)))))))))))) (gS rfl (gS rfl (gS rfl (gS rfl (gS rfl (gS rfl (gS rfl (gS rfl (gS rfl (gS rfl (gS rfl g0))))))))))) (gS rfl (gS rfl (gS rfl (gS rfl (gS rfl (gS rfl (gS rfl (gS rfl (gS rfl (gS rfl g0)))))))))) (gS rfl (gS rfl (gS rfl (gS rfl (gS rfl (gS rfl (gS rfl (gS rfl (gS rfl g0))))))))) (gS rfl (gS rfl (gS rfl (gS rfl (gS rfl (gS rfl (gS rfl (gS rfl g0)))))))) (fun g => ?_)
                                  refine c_seq (fun K40 hK40 => ?_)
                                  exact (by
                                    refine c_region ?_
                                    refine l_step (y_moveV (et (gS rfl (gS rfl (gS rfl (gS rfl g0)))) rfl)) ?_
                                    refine l_step (y_fld fld_41_4 (et (gS rfl (gS rfl (gS rfl (gS rfl g0)))) rfl)) ?_
                                    refine l_step (y_load1 one_26 (et g0 rfl) (at1 (k2.cell (rT3 2 _ rfl)))) ?_
                                    refine l_step (y_bld (bC (et g0 rfl) bN) (bld65_w _ tok.gas)) ?_
                                    refine l_step (y_loadB agg_65 sz_65 (et (gS rfl (gS rfl (gS rfl (gS rfl (gS rfl (gS rfl g0)))))) rfl) rfl (at1B k5)) ?_
                                    refine l_eff (e_callV cal_95 (aC (et (gS rfl g0) rfl) (aC (et g0 rfl) aN)) (show Ret 95 [wV T.gas, wV (priceN s T)] _ (fun v w' => v = wV (T.gas * priceN s T) ∧ Up _ w') from mul_ok _ _ _ hgW hpW hhW)) (fun v41 w41 h41 => ?_)
                                    obtain ⟨rfl, u41⟩ := h41
                                    replace G := G.tr (Go.ofUp hF u41)
                                    replace hF := hF.up u41
                                    replace k2 := k2.up u41
                                    replace k5 := k5.up u41
                                    replace k17 := k17.up u41
                                    replace hX := hX.up u41
                                    replace U := U.tr u41
                                    refine l_step (y_nil (et (gS rfl (gS rfl (gS rfl (gS rfl (gS rfl g0))))) rfl)) ?_
                                    refine l_step (y_fld fld_75_14 (et g0 rfl)) ?_
                                    refine l_effN (e_store sz_65 (et g0 rfl) (cellsV (et (gS rfl (gS rfl g0)) rfl) rfl) rfl (by exact one_uL _) hX.vl.kC (by rw [hX.vl.size]; omega)) (fun v42 w42 h42 => ?_)
                                    obtain ⟨rfl, x42⟩ := h42
                                    have hv42 := hX.st x42 (by decide) (Nat.le_of_ble_eq_true rfl)
                                    replace G := G.chs x42.ch (by intro b hb; exact .inl trivial) (by intro q hq hh; have h9 := hX.vl.kept q hh; rw [hq] at h9; omega)
                                    replace hF := G.fz
                                    replace k2 := k2.ch x42.ch (by intro hm; first | omega | (subst hm; omega))
                                    replace k5 := k5.ch x42.ch (by intro hm; first | omega | (subst hm; omega))
                                    replace k17 := k17.ch x42.ch (by intro hm; first | omega | (subst hm; omega))
                                    replace hX := hv42
                                    replace U := U.cc x42.ch (by intro b hb; exact .inl trivial)
                                    replace hL := (show LO _ _ bc ⟨s.ret, s.env, s.origin, s.price, s.phase, s.status, s.applied + 1, T.gas, some (T.gas - intrN T), some (T.gas * priceN s T), (crtN T.frm T.nonce)⟩ from hL.stHd (T.gas * priceN s T))
                                    refine l_nil ?_
                                    refine hK40 _ _ ?_
                                    refine fg5 0 3 6 10 11 (gS rfl (gS rfl (gS rfl (gS rfl (gS rfl (gS rfl (gS rfl (gS rfl (gS rfl (gS rfl (gS rfl (gS rfl g0)))))))))))) (gS rfl (gS rfl (gS rfl (gS rfl (gS rfl (gS rfl (gS rfl (gS rfl (gS rfl (gS rfl (gS rfl g0))))))))))) (gS rfl (gS rfl (gS rfl (gS rfl (gS rfl (gS rfl (gS rfl (gS rfl (gS rfl (gS rfl g0)))))))))) (gS rfl (gS rfl (gS rfl (gS rfl (gS rfl (gS rfl (gS rfl (gS rfl (gS rfl g0))))))))) (gS rfl (gS rfl (gS rfl (gS rfl (gS rfl (gS rfl (gS rfl (gS rfl g0)))))))) (fun g => ?_)
                                    refine c_seq (fun K43 hK43 => ?_)
                                    exact (by
                                      refine c_region ?_
                                      refine l_step (y_moveV (et (gS rfl (gS rfl (gS rfl (gS rfl g0)))) rfl)) ?_
                                      refine l_step (y_loadB agg_65 sz_65 (et (gS rfl (gS rfl (gS rfl g0))) rfl) rfl (at1B k5)) ?_
                                      refine l_step (y_nil (et (gS rfl g0) rfl)) ?_
                                      refine l_step (y_fld fld_75_8 (et g0 rfl)) ?_
                                      refine l_effN (e_store sz_65 (et g0 rfl) (cellsV (et (gS rfl (gS rfl g0)) rfl) rfl) rfl (by exact one_uL _) hX.vl.kC (by rw [hX.vl.size]; omega)) (fun v44 w44 h44 => ?_)
                                      obtain ⟨rfl, x44⟩ := h44
                                      have hv44 := hX.st x44 (by decide) (Nat.le_of_ble_eq_true rfl)
                                      replace G := G.chs x44.ch (by intro b hb; exact .inl trivial) (by intro q hq hh; have h9 := hX.vl.kept q hh; rw [hq] at h9; omega)
                                      replace hF := G.fz
                                      replace k2 := k2.ch x44.ch (by intro hm; first | omega | (subst hm; omega))
                                      replace k5 := k5.ch x44.ch (by intro hm; first | omega | (subst hm; omega))
                                      replace k17 := k17.ch x44.ch (by intro hm; first | omega | (subst hm; omega))
                                      replace hX := hv44
                                      replace U := U.cc x44.ch (by intro b hb; exact .inl trivial)
                                      replace hL := (show LO _ _ bc ⟨s.ret, s.env, s.origin, priceN s T, s.phase, s.status, s.applied + 1, T.gas, some (T.gas - intrN T), some (T.gas * priceN s T), (crtN T.frm T.nonce)⟩ from hL.stPr (priceN s T))
                                      refine l_nil ?_
                                      refine hK43 _ _ ?_
                                      refine fg4 0 3 10 11 (gS rfl (gS rfl (gS rfl (gS rfl (gS rfl (gS rfl (gS rfl (gS rfl g0)))))))) (gS rfl (gS rfl (gS rfl (gS rfl (gS rfl (gS rfl (gS rfl g0))))))) (gS rfl (gS rfl (gS rfl (gS rfl (gS rfl g0))))) (gS rfl (gS rfl (gS rfl (gS rfl g0)))) (fun g => ?_)
                                      refine c_seq (fun K45 hK45 => ?_)
                                      exact (by
                                        refine c_region ?_
                                        refine l_step (y_moveV (et (gS rfl (gS rfl (gS rfl g0))) rfl)) ?_
                                        refine l_step (y_fld fld_41_0 (et (gS rfl (gS rfl (gS rfl g0))) rfl)) ?_
                                        refine l_step (y_loadR agg_25 sz_25 (et g0 rfl) (by rw [length_bL, length_be]) (at1R (k2.row rT1))) ?_
                                        refine l_step (y_nil (et (gS rfl (gS rfl g0)) rfl)) ?_
                                        refine l_step (y_fld fld_75_7 (et g0 rfl)) ?_
                                        refine l_effN (e_store sz_25 (et g0 rfl) (cellsV (et (gS rfl (gS rfl g0)) rfl) rfl) (by rw [length_bL, length_be]) (by exact one_bL _) hX.vl.kC (by rw [hX.vl.size]; omega)) (fun v46 w46 h46 => ?_)
                                        obtain ⟨rfl, x46⟩ := h46
                                        have hv46 := hX.st x46 (by decide) (by rw [length_bL, length_be]; decide)
                                        replace G := G.chs x46.ch (by intro b hb; exact .inl trivial) (by intro q hq hh; have h9 := hX.vl.kept q hh; rw [hq] at h9; omega)
                                        replace hF := G.fz
                                        replace k2 := k2.ch x46.ch (by intro hm; first | omega | (subst hm; omega))
                                        replace k5 := k5.ch x46.ch (by intro hm; first | omega | (subst hm; omega))
                                        replace k17 := k17.ch x46.ch (by intro hm; first | omega | (subst hm; omega))
                                        replace hX := hv46
                                        replace U := U.cc x46.ch (by intro b hb; exact .inl trivial)
                                        replace hL := (show LO _ _ bc ⟨s.ret, s.env, T.frm, priceN s T, s.phase, s.status, s.applied + 1, T.gas, some (T.gas - intrN T), some (T.gas * priceN s T), (crtN T.frm T.nonce)⟩ from hL.stOg T.frm)
                                        refine l_nil ?_
                                        refine hK45 _ _ ?_
                                        refine fg4 0 3 10 11 (gS rfl (gS rfl (gS rfl (gS rfl (gS rfl (gS rfl (gS rfl (gS rfl g0)))))))) (gS rfl (gS rfl (gS rfl (gS rfl (gS rfl (gS rfl (gS rfl g0))))))) (gS rfl (gS rfl (gS rfl (gS rfl (gS rfl (gS rfl g0)))))) (gS rfl (gS rfl (gS rfl (gS rfl (gS rfl g0))))) (fun g => ?_)
                                        refine c_seq (fun K47 hK47 => ?_)
                                        exact (by
                                          refine c_region ?_
                                          refine l_step (y_moveV (et (gS rfl (gS rfl (gS rfl g0))) rfl)) ?_
                                          refine l_step (y_nil (et g0 rfl)) ?_
                                          refine l_step (y_fld fld_75_5 (et g0 rfl)) ?_
                                          refine l_effN (e_store sz_38 (et g0 rfl) (cellsV rfl rfl) rfl (by intro v hv; simp at hv; subst hv; rfl) hX.vl.kC (by rw [hX.vl.size]; omega)) (fun v48 w48 h48 => ?_)
                                          obtain ⟨rfl, x48⟩ := h48
                                          have hv48 := hX.st x48 (by decide) (Nat.le_of_ble_eq_true rfl)
                                          replace G := G.chs x48.ch (by intro b hb; exact .inl trivial) (by intro q hq hh; have h9 := hX.vl.kept q hh; rw [hq] at h9; omega)
                                          replace hF := G.fz
                                          replace k2 := k2.ch x48.ch (by intro hm; first | omega | (subst hm; omega))
                                          replace k5 := k5.ch x48.ch (by intro hm; first | omega | (subst hm; omega))
                                          replace k17 := k17.ch x48.ch (by intro hm; first | omega | (subst hm; omega))
                                          replace hX := hv48
                                          replace U := U.cc x48.ch (by intro b hb; exact .inl trivial)
                                          replace hL := (show LO _ _ bc ⟨[], s.env, T.frm, priceN s T, s.phase, s.status, s.applied + 1, T.gas, some (T.gas - intrN T), some (T.gas * priceN s T), (crtN T.frm T.nonce)⟩ from hL.stRt (l := []) (BV.nil _))
                                          refine l_nil ?_
                                          refine hK47 _ _ ?_
                                          refine fg4 0 3 10 11 (gS rfl (gS rfl (gS rfl (gS rfl (gS rfl (gS rfl g0)))))) (gS rfl (gS rfl (gS rfl (gS rfl (gS rfl g0))))) (gS rfl (gS rfl (gS rfl (gS rfl g0)))) (gS rfl (gS rfl (gS rfl g0))) (fun g => ?_)
                                          refine c_seq (fun K49 hK49 => ?_)
                                          exact (by
                                            refine c_draw Up 9 [(0, true), (1, true), (2, true), (3, true), (4, true), (5, true), (6, true), (7, true), (8, true), (9, false)] (by kernel_rfl) (fun w50 hu => ⟨Up.refl _, ?_⟩)
                                            replace G := G.tr (Go.ofUp hF hu)
                                            replace hF := hF.up hu
                                            replace k2 := k2.up hu
                                            replace k5 := k5.up hu
                                            replace k17 := k17.up hu
                                            replace hX := hX.up hu
                                            replace U := U.tr hu
                                            have SU := Up.refl w50
                                            refine p_step (by exact rfl) (y_moveV (et (gS rfl (gS rfl (gS rfl g0))) rfl)) ?_
                                            refine p_step (by exact rfl) (y_nil (et g0 rfl)) ?_
                                            refine p_step (by exact rfl) (y_fld fld_75_0 (et g0 rfl)) ?_
                                            refine p_step (by exact rfl) (y_load1 one_59 (et g0 rfl) (atS (hX.vl.c1 hL.pS rfl))) ?_
                                            refine p_step (by exact rfl) (y_fld fld_41_0 (et (gS rfl (gS rfl (gS rfl (gS rfl (gS rfl (gS rfl g0)))))) rfl)) ?_
                                            refine p_step (by exact rfl) (y_loadR agg_25 sz_25 (et g0 rfl) (by rw [length_bL, length_be]) (atSR (k2.row rT1))) ?_
                                            refine p_step (by exact rfl) (y_fld fld_41_3 (et (gS rfl (gS rfl (gS rfl (gS rfl (gS rfl (gS rfl (gS rfl (gS rfl g0)))))))) rfl)) ?_
                                            refine p_step (by exact rfl) (y_load1 one_26 (et g0 rfl) (atS (k2.cell (rT3 1 _ rfl)))) ?_
                                            refine p_step (by exact rfl) (y_add (et g0 rfl) rfl (wrapU_addN (b := 1) uk64 ?_)) ?_
                                            omega
                                            refine p_eff (by exact rfl) (e_callV cal_96 (aC (et (gS rfl (gS rfl (gS rfl (gS rfl (gS rfl g0))))) rfl) (aC (et (gS rfl (gS rfl (gS rfl g0))) rfl) (aC (et g0 rfl) aN))) (v_putNonce hX.vl hX.ok T.frm tok.frm (T.nonce + 1) (by omega) 1 (.inr ⟨by omega, rfl⟩) (by omega))) (fun v51 w51 h51 => ?_)
                                            obtain ⟨rfl, cl51, cs51, V51, t51, ok51, js51⟩ := h51
                                            have nc2 := (t51.col b2 k2.lt).trans nc2
                                            have nc5 := (t51.col b5 k5.lt).trans nc5
                                            have nc17 := (t51.col b17 k17.lt).trans nc17
                                            replace G := G.chs t51.go.ch (by intro b hb; exact .inl trivial) (by intro q hq hh; have h9 := hX.vl.kept q hh; (have e0 := hq); omega)
                                            replace hF := G.fz
                                            replace k2 := k2.ch t51.go.ch (by intro hm; (have e0 := hm); omega)
                                            replace k5 := k5.ch t51.go.ch (by intro hm; (have e0 := hm); omega)
                                            replace k17 := k17.ch t51.go.ch (by intro hm; (have e0 := hm); omega)
                                            replace hX := hX.vt t51 ok51
                                            replace U := U.cc t51.go.ch (by intro b hb; exact .inl trivial)
                                            replace hL := hL.out t51.out (.inl (by decide))
                                            replace hva : VA V51 (absY { s.now with accts := bA1 s T }) [] (slF s.now.accts) := by
                                              have h9 := js51.va hva
                                              have e9 : absY { s.now with accts := bA1 s T } = _ := ay_nonce s.now T.frm ((bSnd s T).nonce + 1)
                                              rw [e9, ← vd.non]; exact h9
                                            have hhf : hasA V51 T.frm := has_nonce (by rw [hva.abs]; show (acctAt (bA1 s T) T.frm).nonce ≠ 0; rw [bA1_non]; exact Nat.succ_ne_zero _)
                                            have hcC := hX.vl.colC
                                            have hna51 := js51.na
                                            have hnj51 := js51.nj
                                            have hns51 := js51.ns
                                            have hnt51 := js51.nt
                                            have hmr51 := js51.mr
                                            refine ⟨.inl rfl, ?_⟩
                                            refine p_nil ?_
                                            refine hK49 _ _ ?_
                                            refine fg4 0 3 10 11 (gS rfl (gS rfl (gS rfl (gS rfl (gS rfl (gS rfl (gS rfl (gS rfl (gS rfl (gS rfl (gS rfl (gS rfl (gS rfl g0))))))))))))) (gS rfl (gS rfl (gS rfl (gS rfl (gS rfl (gS rfl (gS rfl (gS rfl (gS rfl (gS rfl (gS rfl (gS rfl g0)))))))))))) (gS rfl (gS rfl (gS rfl (gS rfl (gS rfl (gS rfl (gS rfl (gS rfl (gS rfl (gS rfl (gS rfl g0))))))))))) (gS rfl (gS rfl (gS rfl (gS rfl (gS rfl (gS rfl (gS rfl (gS rfl (gS rfl (gS rfl g0)))))))))) (fun g => ?_)
                                            refine c_seq (fun K52 hK52 => ?_)
                                            exact (by
                                              refine c_draw Up 18 [(0, true), (1, true), (2, true), (3, true), (4, true), (5, true), (6, true), (7, true), (8, true), (9, true), (10, true), (11, true), (13, true), (14, true), (15, true), (16, true), (12, false), (17, false), (18, false)] (by kernel_rfl) (fun w53 hu => ⟨Up.refl _, ?_⟩)
                                              replace G := G.tr (Go.ofUp hF hu)
                                              replace hF := hF.up hu
                                              replace k2 := k2.up hu
                                              replace k5 := k5.up hu
                                              replace k17 := k17.up hu
                                              replace hX := hX.up hu
                                              replace U := U.tr hu
                                              have SU := Up.refl w53
                                              refine p_step (by exact rfl) (y_moveV (et (gS rfl (gS rfl (gS rfl g0))) rfl)) ?_
                                              refine p_step (by exact rfl) (y_nil (et g0 rfl)) ?_
                                              refine p_step (by exact rfl) (y_fld fld_75_0 (et g0 rfl)) ?_
                                              refine p_step (by exact rfl) (y_load1 one_59 (et g0 rfl) (atS (hX.vl.c1 hL.pS rfl))) ?_
                                              refine p_step (by exact rfl) (y_fld fld_41_0 (et (gS rfl (gS rfl (gS rfl (gS rfl (gS rfl (gS rfl g0)))))) rfl)) ?_
                                              refine p_step (by exact rfl) (y_loadR agg_25 sz_25 (et g0 rfl) (by rw [length_bL, length_be]) (atSR (k2.row rT1))) ?_
                                              refine p_step (by exact rfl) (y_moveV (et (gS rfl (gS rfl (gS rfl (gS rfl (gS rfl (gS rfl (gS rfl (gS rfl (gS rfl g0))))))))) rfl)) ?_
                                              refine p_step (by exact rfl) (y_nil (et g0 rfl)) ?_
                                              refine p_step (by exact rfl) (y_fld fld_75_0 (et g0 rfl)) ?_
                                              refine p_step (by exact rfl) (y_load1 one_59 (et g0 rfl) (atS (hX.vl.c1 hL.pS rfl))) ?_
                                              refine p_step (by exact rfl) (y_fld fld_41_0 (et (gS rfl (gS rfl (gS rfl (gS rfl (gS rfl (gS rfl (gS rfl (gS rfl (gS rfl (gS rfl (gS rfl (gS rfl g0)))))))))))) rfl)) ?_
                                              refine p_step (by exact rfl) (y_loadR agg_25 sz_25 (et g0 rfl) (by rw [length_bL, length_be]) (atSR (k2.row rT1))) ?_
                                              refine p_step (by exact rfl) (y_moveV (et (gS rfl (gS rfl (gS rfl (gS rfl (gS rfl (gS rfl (gS rfl (gS rfl (gS rfl (gS rfl (gS rfl (gS rfl (gS rfl (gS rfl (gS rfl g0))))))))))))))) rfl)) ?_
                                              refine p_step (by exact rfl) (y_nil (et g0 rfl)) ?_
                                              refine p_step (by exact rfl) (y_fld fld_75_14 (et g0 rfl)) ?_
                                              refine p_step (by exact rfl) (y_loadR agg_65 sz_65 (et g0 rfl) rfl (atSR (hX.vl.kC.rowO (show RowIn _ 2409 (wL (T.gas * priceN s T)) from hL.hld _ rfl) rfl))) ?_
                                              have hb1 : (absV V51).bal T.frm = (bSnd s T).bal := by rw [hva.abs]; exact bal_non s.now.accts T.frm _ T.frm
                                              refine p_eff (by exact rfl) (e_callV cal_99 (aC (et (gS rfl (gS rfl (gS rfl (gS rfl (gS rfl (gS rfl g0)))))) rfl) (aC (et (gS rfl (gS rfl (gS rfl (gS rfl g0)))) rfl) aN)) (hb1 ▸ v_balance hX.vl hX.ok T.frm tok.frm)) (fun v54 w54 h54 => ?_)
                                              obtain ⟨rfl, u54⟩ := h54
                                              replace G := G.tr (Go.ofUp hF u54)
                                              replace hF := hF.up u54
                                              replace k2 := k2.up u54
                                              replace k5 := k5.up u54
                                              replace k17 := k17.up u54
                                              replace hX := hX.up u54
                                              replace U := U.tr u54
                                              refine ⟨.inr (SU.tr u54), ?_⟩
                                              replace SU := SU.tr u54
                                              exact (by
                                                refine p_eff (by exact rfl) (e_callV cal_98 (aC (et g0 rfl) (aC (et (gS rfl g0) rfl) aN)) (sub_ok _ _ _ hbW (by omega))) (fun v55 w55 h55 => ?_)
                                                obtain ⟨rfl, u55⟩ := h55
                                                replace G := G.tr (Go.ofUp hF u55)
                                                replace hF := hF.up u55
                                                replace k2 := k2.up u55
                                                replace k5 := k5.up u55
                                                replace k17 := k17.up u55
                                                replace hX := hX.up u55
                                                replace U := U.tr u55
                                                refine ⟨.inr (SU.tr u55), ?_⟩
                                                replace SU := SU.tr u55
                                                refine p_eff (by exact rfl) (e_callV cal_97 (aC (et (gS rfl (gS rfl (gS rfl (gS rfl (gS rfl (gS rfl (gS rfl (gS rfl (gS rfl (gS rfl (gS rfl (gS rfl (gS rfl (gS rfl g0)))))))))))))) rfl) (aC (et (gS rfl (gS rfl (gS rfl (gS rfl (gS rfl (gS rfl (gS rfl (gS rfl (gS rfl (gS rfl (gS rfl (gS rfl g0)))))))))))) rfl) (aC (et g0 rfl) aN))) (v_putBalance hX.vl hX.ok T.frm tok.frm ((bSnd s T).bal - T.gas * priceN s T) (by omega) 0 (.inl ⟨hhf, rfl⟩) (by omega))) (fun v56 w56 h56 => ?_)
                                                obtain ⟨rfl, cl56, cs56, V56, t56, ok56, js56⟩ := h56
                                                have nc2 := (t56.col b2 k2.lt).trans nc2
                                                have nc5 := (t56.col b5 k5.lt).trans nc5
                                                have nc17 := (t56.col b17 k17.lt).trans nc17
                                                replace G := G.chs t56.go.ch (by intro b hb; exact .inl trivial) (by intro q hq hh; have h9 := hX.vl.kept q hh; (have e0 := hq); omega)
                                                replace hF := G.fz
                                                replace k2 := k2.ch t56.go.ch (by intro hm; (have e0 := hm); omega)
                                                replace k5 := k5.ch t56.go.ch (by intro hm; (have e0 := hm); omega)
                                                replace k17 := k17.ch t56.go.ch (by intro hm; (have e0 := hm); omega)
                                                replace hX := hX.vt t56 ok56
                                                replace U := U.cc t56.go.ch (by intro b hb; exact .inl trivial)
                                                replace hL := hL.out t56.out (.inl (by decide))
                                                replace hva : VA V56 (absY { s.now with accts := bA2 s T }) [] (slF s.now.accts) := by
                                                  have h9 := js56.va hva
                                                  have e9 : absY { s.now with accts := bA2 s T } = _ := ay_bal { s.now with accts := bA1 s T } T.frm ((bSnd s T).bal - T.gas * priceN s T)
                                                  rw [e9]; exact h9
                                                replace hhf := js56.ha _ hhf
                                                have hcC := hX.vl.colC
                                                have hna56 := js56.na
                                                have hnj56 := js56.nj
                                                have hns56 := js56.ns
                                                have hnt56 := js56.nt
                                                have hmr56 := js56.mr
                                                refine ⟨.inl rfl, ?_⟩
                                                refine p_nil ?_
                                                refine hK52 _ _ ?_
                                                refine fg4 0 3 10 11 (gS rfl (gS rfl (gS rfl (gS rfl (gS rfl (gS rfl (gS rfl (gS rfl (gS rfl (gS rfl (gS rfl (gS rfl (gS rfl (gS rfl (gS rfl (gS rfl (gS rfl (gS rfl (gS rfl (gS rfl (gS rfl (gS rfl g0)))))))))))))))))))))) (gS rfl (gS rfl (gS rfl (gS rfl (gS rfl (gS rfl (gS rfl (gS rfl (gS rfl (gS rfl (gS rfl (gS rfl (gS rfl (gS rfl (gS rfl (gS rfl (gS rfl (gS rfl (gS rfl (gS rfl (gS rfl g0))))))))))))))))))))) (gS rfl (gS rfl (gS rfl (gS rfl (gS rfl (gS rfl (gS rfl (gS rfl (gS rfl (gS rfl (gS rfl (gS rfl (gS rfl (gS rfl (gS rfl (gS rfl (gS rfl (gS rfl (gS rfl (gS rfl g0)))))))))))))))))))) (gS rfl (gS rfl (gS rfl (gS rfl (gS rfl (gS rfl (gS rfl (gS rfl (gS rfl (gS rfl (gS rfl (gS rfl (gS rfl (gS rfl (gS rfl (gS rfl (gS rfl (gS rfl (gS rfl g0))))))))))))))))))) (fun g => ?_)
                                                refine c_seq (fun K57 hK57 => ?_)
                                                exact (by
                                                  refine c_draw Up 6 [(0, true), (1, true), (2, true), (3, true), (4, true), (5, true), (6, false)] (by kernel_rfl) (fun w58 hu => ⟨Up.refl _, ?_⟩)
                                                  replace G := G.tr (Go.ofUp hF hu)
                                                  replace hF := hF.up hu
                                                  replace k2 := k2.up hu
                                                  replace k5 := k5.up hu
                                                  replace k17 := k17.up hu
                                                  replace hX := hX.up hu
                                                  replace U := U.tr hu
                                                  have SU := Up.refl w58
                                                  refine p_step (by exact rfl) (y_moveV (et (gS rfl (gS rfl (gS rfl g0))) rfl)) ?_
                                                  refine p_step (by exact rfl) (y_nil (et g0 rfl)) ?_
                                                  refine p_step (by exact rfl) (y_fld fld_75_0 (et g0 rfl)) ?_
                                                  refine p_step (by exact rfl) (y_load1 one_59 (et g0 rfl) (atS (hX.vl.c1 hL.pS rfl))) ?_
                                                  refine p_step (by exact rfl) (y_fld fld_41_0 (et (gS rfl (gS rfl (gS rfl (gS rfl (gS rfl (gS rfl g0)))))) rfl)) ?_
                                                  refine p_step (by exact rfl) (y_loadR agg_25 sz_25 (et g0 rfl) (by rw [length_bL, length_be]) (atSR (k2.row rT1))) ?_
                                                  refine p_eff (by exact rfl) (e_callV cal_100 (aC (et (gS rfl (gS rfl g0)) rfl) (aC (et g0 rfl) aN)) (e_warm hX.vl hX.ok T.frm tok.frm (by omega) (by omega))) (fun v59 w59 h59 => ?_)
                                                  obtain ⟨rfl, cl59, cs59, V59, t59, ok59, js59⟩ := h59
                                                  have nc2 := (t59.col b2 k2.lt).trans nc2
                                                  have nc5 := (t59.col b5 k5.lt).trans nc5
                                                  have nc17 := (t59.col b17 k17.lt).trans nc17
                                                  replace G := G.chs t59.go.ch (by intro b hb; exact .inl trivial) (by intro q hq hh; have h9 := hX.vl.kept q hh; (have e0 := hq); omega)
                                                  replace hF := G.fz
                                                  replace k2 := k2.ch t59.go.ch (by intro hm; (have e0 := hm); omega)
                                                  replace k5 := k5.ch t59.go.ch (by intro hm; (have e0 := hm); omega)
                                                  replace k17 := k17.ch t59.go.ch (by intro hm; (have e0 := hm); omega)
                                                  replace hX := hX.vt t59 ok59
                                                  replace U := U.cc t59.go.ch (by intro b hb; exact .inl trivial)
                                                  replace hL := hL.out t59.out (.inl (by decide))
                                                  replace hva : VA V59 (absY (wrmY { s.now with accts := bA2 s T } T.frm)) [] (slF s.now.accts) := by
                                                    have h9 := js59.va hva
                                                    have e9 : absY (wrmY { s.now with accts := bA2 s T } T.frm) = _ := ay_warmA { s.now with accts := bA2 s T } T.frm
                                                    rw [e9]; exact h9
                                                  replace hhf := js59.ha _ hhf
                                                  have hcC := hX.vl.colC
                                                  have hna59 := js59.na
                                                  have hnj59 := js59.nj
                                                  have hns59 := js59.ns
                                                  have hnt59 := js59.nt
                                                  have hmr59 := js59.mr
                                                  refine ⟨.inl rfl, ?_⟩
                                                  refine p_nil ?_
                                                  refine hK57 _ _ ?_
                                                  refine fg4 0 3 10 11 (gS rfl (gS rfl (gS rfl (gS rfl (gS rfl (gS rfl (gS rfl (gS rfl (gS rfl (gS rfl g0)))))))))) (gS rfl (gS rfl (gS rfl (gS rfl (gS rfl (gS rfl (gS rfl (gS rfl (gS rfl g0))))))))) (gS rfl (gS rfl (gS rfl (gS rfl (gS rfl (gS rfl (gS rfl (gS rfl g0)))))))) (gS rfl (gS rfl (gS rfl (gS rfl (gS rfl (gS rfl (gS rfl g0))))))) (fun g => ?_)
                                                  refine c_seq (fun K60 hK60 => ?_)
                                                  exact (by
                                                    refine c_draw Up 9 [(0, true), (1, true), (2, true), (3, true), (4, true), (5, true), (6, true), (7, true), (8, true), (9, false)] (by kernel_rfl) (fun w61 hu => ⟨Up.refl _, ?_⟩)
                                                    replace G := G.tr (Go.ofUp hF hu)
                                                    replace hF := hF.up hu
                                                    replace k2 := k2.up hu
                                                    replace k5 := k5.up hu
                                                    replace k17 := k17.up hu
                                                    replace hX := hX.up hu
                                                    replace U := U.tr hu
                                                    have SU := Up.refl w61
                                                    refine p_step (by exact rfl) (y_moveV (et (gS rfl (gS rfl (gS rfl g0))) rfl)) ?_
                                                    refine p_step (by exact rfl) (y_nil (et g0 rfl)) ?_
                                                    refine p_step (by exact rfl) (y_fld fld_75_0 (et g0 rfl)) ?_
                                                    refine p_step (by exact rfl) (y_load1 one_59 (et g0 rfl) (atS (hX.vl.c1 hL.pS rfl))) ?_
                                                    refine p_step (by exact rfl) (y_moveV (et (gS rfl (gS rfl (gS rfl (gS rfl (gS rfl (gS rfl (gS rfl g0))))))) rfl)) ?_
                                                    refine p_step (by exact rfl) (y_nil (et g0 rfl)) ?_
                                                    refine p_step (by exact rfl) (y_fld fld_75_6 (et g0 rfl)) ?_
                                                    refine p_step (by exact rfl) (y_fld fld_31_0 (et g0 rfl)) ?_
                                                    obtain ⟨eha2, ehc2, hCo, eNu2, eRa2, eCh2, eBf2, eHs2, eHv2⟩ := (show EC _ _ 2260 s.env from hL.env).ex
                                                    refine p_step (by exact rfl) (y_loadR agg_25 sz_25 (et g0 rfl) (by rw [length_bL, length_be]) (atSR (hX.vl.kC.rowO hCo rfl))) ?_
                                                    refine p_eff (by exact rfl) (e_callV cal_100 (aC (et (gS rfl (gS rfl (gS rfl (gS rfl (gS rfl g0))))) rfl) (aC (et g0 rfl) aN)) (e_warm hX.vl hX.ok s.env.coinbase eo.coinbase (by omega) (by omega))) (fun v62 w62 h62 => ?_)
                                                    obtain ⟨rfl, cl62, cs62, V62, t62, ok62, js62⟩ := h62
                                                    have nc2 := (t62.col b2 k2.lt).trans nc2
                                                    have nc5 := (t62.col b5 k5.lt).trans nc5
                                                    have nc17 := (t62.col b17 k17.lt).trans nc17
                                                    replace G := G.chs t62.go.ch (by intro b hb; exact .inl trivial) (by intro q hq hh; have h9 := hX.vl.kept q hh; (have e0 := hq); omega)
                                                    replace hF := G.fz
                                                    replace k2 := k2.ch t62.go.ch (by intro hm; (have e0 := hm); omega)
                                                    replace k5 := k5.ch t62.go.ch (by intro hm; (have e0 := hm); omega)
                                                    replace k17 := k17.ch t62.go.ch (by intro hm; (have e0 := hm); omega)
                                                    replace hX := hX.vt t62 ok62
                                                    replace U := U.cc t62.go.ch (by intro b hb; exact .inl trivial)
                                                    replace hL := hL.out t62.out (.inl (by decide))
                                                    have hhc := wrm_has js62 hva
                                                    replace hva : VA V62 (absY (wrmY (wrmY { s.now with accts := bA2 s T } T.frm) s.env.coinbase)) [] (slF s.now.accts) := by
                                                      have h9 := js62.va hva
                                                      have e9 : absY (wrmY (wrmY { s.now with accts := bA2 s T } T.frm) s.env.coinbase) = _ := ay_warmA (wrmY { s.now with accts := bA2 s T } T.frm) s.env.coinbase
                                                      rw [e9]; exact h9
                                                    replace hhf := js62.ha _ hhf
                                                    have hcC := hX.vl.colC
                                                    have hna62 := js62.na
                                                    have hnj62 := js62.nj
                                                    have hns62 := js62.ns
                                                    have hnt62 := js62.nt
                                                    have hmr62 := js62.mr
                                                    refine ⟨.inl rfl, ?_⟩
                                                    refine p_nil ?_
                                                    refine hK60 _ _ ?_
                                                    refine fg4 0 3 10 11 (gS rfl (gS rfl (gS rfl (gS rfl (gS rfl (gS rfl (gS rfl (gS rfl (gS rfl (gS rfl (gS rfl (gS rfl (gS rfl g0))))))))))))) (gS rfl (gS rfl (gS rfl (gS rfl (gS rfl (gS rfl (gS rfl (gS rfl (gS rfl (gS rfl (gS rfl (gS rfl g0)))))))))))) (gS rfl (gS rfl (gS rfl (gS rfl (gS rfl (gS rfl (gS rfl (gS rfl (gS rfl (gS rfl (gS rfl g0))))))))))) (gS rfl (gS rfl (gS rfl (gS rfl (gS rfl (gS rfl (gS rfl (gS rfl (gS rfl (gS rfl g0)))))))))) (fun g => ?_)
                                                    refine c_seq (fun K63 hK63 => ?_)
                                                    exact (by
                                                      refine c_draw Up 5 [(0, true), (1, true), (2, true), (3, true), (4, true), (5, false)] (by kernel_rfl) (fun w64 hu => ⟨Up.refl _, ?_⟩)
                                                      replace G := G.tr (Go.ofUp hF hu)
                                                      replace hF := hF.up hu
                                                      replace k2 := k2.up hu
                                                      replace k5 := k5.up hu
                                                      replace k17 := k17.up hu
                                                      replace hX := hX.up hu
                                                      replace U := U.tr hu
                                                      have SU := Up.refl w64
                                                      refine p_step (by exact rfl) (y_moveV (et (gS rfl (gS rfl (gS rfl g0))) rfl)) ?_
                                                      refine p_step (by exact rfl) (y_nil (et g0 rfl)) ?_
                                                      refine p_step (by exact rfl) (y_fld fld_75_0 (et g0 rfl)) ?_
                                                      refine p_step (by exact rfl) (y_load1 one_59 (et g0 rfl) (atS (hX.vl.c1 hL.pS rfl))) ?_
                                                      refine p_step (by exact rfl) (y_loadB agg_25 sz_25 (et (gS rfl (gS rfl (gS rfl (gS rfl g0)))) rfl) (by rw [List.size_toArray, length_bL, length_be]) (atSB k17)) ?_
                                                      refine p_eff (by exact rfl) (e_callV cal_100 (aC (et (gS rfl g0) rfl) (aC (et g0 rfl) aN)) (e_warm hX.vl hX.ok (crtN T.frm T.nonce) (crt_lt _ _) (by omega) (by omega))) (fun v65 w65 h65 => ?_)
                                                      obtain ⟨rfl, cl65, cs65, V65, t65, ok65, js65⟩ := h65
                                                      have nc2 := (t65.col b2 k2.lt).trans nc2
                                                      have nc5 := (t65.col b5 k5.lt).trans nc5
                                                      have nc17 := (t65.col b17 k17.lt).trans nc17
                                                      replace G := G.chs t65.go.ch (by intro b hb; exact .inl trivial) (by intro q hq hh; have h9 := hX.vl.kept q hh; (have e0 := hq); omega)
                                                      replace hF := G.fz
                                                      replace k2 := k2.ch t65.go.ch (by intro hm; (have e0 := hm); omega)
                                                      replace k5 := k5.ch t65.go.ch (by intro hm; (have e0 := hm); omega)
                                                      replace k17 := k17.ch t65.go.ch (by intro hm; (have e0 := hm); omega)
                                                      replace hX := hX.vt t65 ok65
                                                      replace U := U.cc t65.go.ch (by intro b hb; exact .inl trivial)
                                                      replace hL := hL.out t65.out (.inl (by decide))
                                                      have hht := wrm_has js65 hva
                                                      replace hva : VA V65 (absY (wrmY (wrmY (wrmY { s.now with accts := bA2 s T } T.frm) s.env.coinbase) (crtN T.frm T.nonce))) [] (slF s.now.accts) := by
                                                        have h9 := js65.va hva
                                                        have e9 : absY (wrmY (wrmY (wrmY { s.now with accts := bA2 s T } T.frm) s.env.coinbase) (crtN T.frm T.nonce)) = _ := ay_warmA (wrmY (wrmY { s.now with accts := bA2 s T } T.frm) s.env.coinbase) (crtN T.frm T.nonce)
                                                        rw [e9]; exact h9
                                                      replace hhf := js65.ha _ hhf
                                                      replace hhc := js65.ha _ hhc
                                                      have hcC := hX.vl.colC
                                                      have hna65 := js65.na
                                                      have hnj65 := js65.nj
                                                      have hns65 := js65.ns
                                                      have hnt65 := js65.nt
                                                      have hmr65 := js65.mr
                                                      refine ⟨.inl rfl, ?_⟩
                                                      refine p_nil ?_
                                                      refine hK63 _ _ ?_
                                                      refine fg4 0 3 10 11 (gS rfl (gS rfl (gS rfl (gS rfl (gS rfl (gS rfl (gS rfl (gS rfl (gS rfl g0))))))))) (gS rfl (gS rfl (gS rfl (gS rfl (gS rfl (gS rfl (gS rfl (gS rfl g0)))))))) (gS rfl (gS rfl (gS rfl (gS rfl (gS rfl (gS rfl (gS rfl g0))))))) (gS rfl (gS rfl (gS rfl (gS rfl (gS rfl (gS rfl g0)))))) (fun g => ?_)
                                                      refine c_seq (fun K66 hK66 => ?_)
                                                      exact (by
                                                        refine c_region ?_
                                                        refine l_step (y_moveV (et (gS rfl (gS rfl (gS rfl g0))) rfl)) ?_
                                                        refine l_step (y_nil (et g0 rfl)) ?_
                                                        refine l_step (y_fld fld_75_0 (et g0 rfl)) ?_
                                                        refine l_step (y_load1 one_59 (et g0 rfl) (at1 (hX.vl.c1 hL.pS rfl))) ?_
                                                        refine l_step (y_bld (bC rfl bN) bld25_4) ?_
                                                        refine l_eff (e_callV cal_100 (aC (et (gS rfl g0) rfl) (aC (et g0 rfl) aN)) (e_warm hX.vl hX.ok 4 (by decide) (by omega) (by omega))) (fun v67 w67 h67 => ?_)
                                                        obtain ⟨rfl, cl67, cs67, V67, t67, ok67, js67⟩ := h67
                                                        have nc2 := (t67.col b2 k2.lt).trans nc2
                                                        have nc5 := (t67.col b5 k5.lt).trans nc5
                                                        have nc17 := (t67.col b17 k17.lt).trans nc17
                                                        replace G := G.chs t67.go.ch (by intro b hb; exact .inl trivial) (by intro q hq hh; have h9 := hX.vl.kept q hh; (have e0 := hq); omega)
                                                        replace hF := G.fz
                                                        replace k2 := k2.ch t67.go.ch (by intro hm; (have e0 := hm); omega)
                                                        replace k5 := k5.ch t67.go.ch (by intro hm; (have e0 := hm); omega)
                                                        replace k17 := k17.ch t67.go.ch (by intro hm; (have e0 := hm); omega)
                                                        replace hX := hX.vt t67 ok67
                                                        replace U := U.cc t67.go.ch (by intro b hb; exact .inl trivial)
                                                        replace hL := hL.out t67.out (.inl (by decide))
                                                        replace hva : VA V67 (absY (wrmY (wrmY (wrmY (wrmY { s.now with accts := bA2 s T } T.frm) s.env.coinbase) (crtN T.frm T.nonce)) 4)) [] (slF s.now.accts) := by
                                                          have h9 := js67.va hva
                                                          have e9 : absY (wrmY (wrmY (wrmY (wrmY { s.now with accts := bA2 s T } T.frm) s.env.coinbase) (crtN T.frm T.nonce)) 4) = _ := ay_warmA (wrmY (wrmY (wrmY { s.now with accts := bA2 s T } T.frm) s.env.coinbase) (crtN T.frm T.nonce)) 4
                                                          rw [e9]; exact h9
                                                        replace hhf := js67.ha _ hhf
                                                        replace hhc := js67.ha _ hhc
                                                        replace hht := js67.ha _ hht
                                                        have hcC := hX.vl.colC
                                                        have hna67 := js67.na
                                                        have hnj67 := js67.nj
                                                        have hns67 := js67.ns
                                                        have hnt67 := js67.nt
                                                        have hmr67 := js67.mr
                                                        refine l_nil ?_
                                                        refine hK66 _ _ ?_
                                                        refine fg4 0 3 10 11 (gS rfl (gS rfl (gS rfl (gS rfl (gS rfl (gS rfl (gS rfl (gS rfl (gS rfl g0))))))))) (gS rfl (gS rfl (gS rfl (gS rfl (gS rfl (gS rfl (gS rfl (gS rfl g0)))))))) (gS rfl (gS rfl (gS rfl (gS rfl (gS rfl (gS rfl (gS rfl g0))))))) (gS rfl (gS rfl (gS rfl (gS rfl (gS rfl (gS rfl g0)))))) (fun g => ?_)
                                                        refine c_seq (fun K68 hK68 => ?_)
                                                        exact (by
                                                          refine c_region ?_
                                                          refine l_step (y_moveV (et (gS rfl (gS rfl (gS rfl g0))) rfl)) ?_
                                                          refine l_step (y_nil (et g0 rfl)) ?_
                                                          refine l_step (y_fld fld_75_0 (et g0 rfl)) ?_
                                                          refine l_step (y_load1 one_59 (et g0 rfl) (at1 (hX.vl.c1 hL.pS rfl))) ?_
                                                          refine l_step (y_bld (bC rfl bN) bld25_5) ?_
                                                          refine l_eff (e_callV cal_100 (aC (et (gS rfl g0) rfl) (aC (et g0 rfl) aN)) (e_warm hX.vl hX.ok 5 (by decide) (by omega) (by omega))) (fun v69 w69 h69 => ?_)
                                                          obtain ⟨rfl, cl69, cs69, V69, t69, ok69, js69⟩ := h69
                                                          have nc2 := (t69.col b2 k2.lt).trans nc2
                                                          have nc5 := (t69.col b5 k5.lt).trans nc5
                                                          have nc17 := (t69.col b17 k17.lt).trans nc17
                                                          replace G := G.chs t69.go.ch (by intro b hb; exact .inl trivial) (by intro q hq hh; have h9 := hX.vl.kept q hh; (have e0 := hq); omega)
                                                          replace hF := G.fz
                                                          replace k2 := k2.ch t69.go.ch (by intro hm; (have e0 := hm); omega)
                                                          replace k5 := k5.ch t69.go.ch (by intro hm; (have e0 := hm); omega)
                                                          replace k17 := k17.ch t69.go.ch (by intro hm; (have e0 := hm); omega)
                                                          replace hX := hX.vt t69 ok69
                                                          replace U := U.cc t69.go.ch (by intro b hb; exact .inl trivial)
                                                          replace hL := hL.out t69.out (.inl (by decide))
                                                          replace hva : VA V69 (absY (wrmY (wrmY (wrmY (wrmY (wrmY { s.now with accts := bA2 s T } T.frm) s.env.coinbase) (crtN T.frm T.nonce)) 4) 5)) [] (slF s.now.accts) := by
                                                            have h9 := js69.va hva
                                                            have e9 : absY (wrmY (wrmY (wrmY (wrmY (wrmY { s.now with accts := bA2 s T } T.frm) s.env.coinbase) (crtN T.frm T.nonce)) 4) 5) = _ := ay_warmA (wrmY (wrmY (wrmY (wrmY { s.now with accts := bA2 s T } T.frm) s.env.coinbase) (crtN T.frm T.nonce)) 4) 5
                                                            rw [e9]; exact h9
                                                          replace hhf := js69.ha _ hhf
                                                          replace hhc := js69.ha _ hhc
                                                          replace hht := js69.ha _ hht
                                                          have hcC := hX.vl.colC
                                                          have hna69 := js69.na
                                                          have hnj69 := js69.nj
                                                          have hns69 := js69.ns
                                                          have hnt69 := js69.nt
                                                          have hmr69 := js69.mr
                                                          refine l_nil ?_
                                                          refine hK68 _ _ ?_
                                                          refine fg4 0 3 10 11 (gS rfl (gS rfl (gS rfl (gS rfl (gS rfl (gS rfl (gS rfl (gS rfl (gS rfl g0))))))))) (gS rfl (gS rfl (gS rfl (gS rfl (gS rfl (gS rfl (gS rfl (gS rfl g0)))))))) (gS rfl (gS rfl (gS rfl (gS rfl (gS rfl (gS rfl (gS rfl g0))))))) (gS rfl (gS rfl (gS rfl (gS rfl (gS rfl (gS rfl g0)))))) (fun g => ?_)
                                                          refine c_seq (fun K70 hK70 => ?_)
                                                          exact (by
                                                            refine c_draw Up 6 [(0, true), (1, true), (2, true), (3, true), (4, true), (5, true), (6, false)] (by kernel_rfl) (fun w71 hu => ⟨Up.refl _, ?_⟩)
                                                            replace G := G.tr (Go.ofUp hF hu)
                                                            replace hF := hF.up hu
                                                            replace k2 := k2.up hu
                                                            replace k5 := k5.up hu
                                                            replace k17 := k17.up hu
                                                            replace hX := hX.up hu
                                                            replace U := U.tr hu
                                                            have SU := Up.refl w71
                                                            refine p_step (by exact rfl) (y_moveV (et (gS rfl (gS rfl (gS rfl g0))) rfl)) ?_
                                                            refine p_step (by exact rfl) (y_nil (et g0 rfl)) ?_
                                                            refine p_step (by exact rfl) (y_fld fld_75_0 (et g0 rfl)) ?_
                                                            refine p_step (by exact rfl) (y_load1 one_59 (et g0 rfl) (atS (hX.vl.c1 hL.pS rfl))) ?_
                                                            refine p_step (by exact rfl) (y_fld fld_41_11 (et (gS rfl (gS rfl (gS rfl (gS rfl (gS rfl (gS rfl g0)))))) rfl)) ?_
                                                            refine p_step (by exact rfl) (y_load1 one_39 (et g0 rfl) (atS (k2.cell (rT9 0 _ rfl)))) ?_
                                                            refine p_eff (by exact rfl) (e_callV cal_101 (aC (et (gS rfl (gS rfl g0)) rfl) (aC (et g0 rfl) aN)) (e_warmList hX.vl hX.ok (hTa.mono hL0) vd.ls (by omega) (by omega) (by omega) hva)) (fun v72 w72 h72 => ?_)
                                                            obtain ⟨rfl, cl72, cs72, V72, t72, ok72, js72⟩ := h72
                                                            have nc2 := (t72.col b2 k2.lt).trans nc2
                                                            have nc5 := (t72.col b5 k5.lt).trans nc5
                                                            have nc17 := (t72.col b17 k17.lt).trans nc17
                                                            replace G := G.chs t72.go.ch (by intro b hb; exact .inl trivial) (by intro q hq hh; have h9 := hX.vl.kept q hh; (have e0 := hq); omega)
                                                            replace hF := G.fz
                                                            replace k2 := k2.ch t72.go.ch (by intro hm; (have e0 := hm); omega)
                                                            replace k5 := k5.ch t72.go.ch (by intro hm; (have e0 := hm); omega)
                                                            replace k17 := k17.ch t72.go.ch (by intro hm; (have e0 := hm); omega)
                                                            replace hX := hX.vt t72 ok72
                                                            replace U := U.cc t72.go.ch (by intro b hb; exact .inl trivial)
                                                            replace hL := hL.out t72.out (.inl (by decide))
                                                            replace hva : VA V72 (absY (bW s T)) [] (slF s.now.accts) := by
                                                              have h9 := js72.va hva
                                                              have e9 : absY (bW s T) = _ := ay_list T.access (bW3 s T)
                                                              rw [e9]
                                                              unfold bW3
                                                              rw [show bTgt s T = (crtN T.frm T.nonce) from hTg]
                                                              exact h9
                                                            replace hhf := js72.ha _ hhf
                                                            replace hhc := js72.ha _ hhc
                                                            replace hht := js72.ha _ hht
                                                            have hcC := hX.vl.colC
                                                            have hna72 := js72.na
                                                            have hnj72 := js72.nj
                                                            have hns72 := js72.ns
                                                            have hnt72 := js72.nt
                                                            have hmr72 := js72.mr
                                                            refine ⟨.inl rfl, ?_⟩
                                                            have hmk9 : V72.marks = [] := by rw [hmr72, hmr69, hmr67, hmr65, hmr62, hmr59, hmr56, hmr51]; exact hEI.m
                                                            refine p_nil ?_
                                                            refine hK70 _ _ ?_
                                                            refine fg4 0 3 10 11 (gS rfl (gS rfl (gS rfl (gS rfl (gS rfl (gS rfl (gS rfl (gS rfl (gS rfl (gS rfl g0)))))))))) (gS rfl (gS rfl (gS rfl (gS rfl (gS rfl (gS rfl (gS rfl (gS rfl (gS rfl g0))))))))) (gS rfl (gS rfl (gS rfl (gS rfl (gS rfl (gS rfl (gS rfl (gS rfl g0)))))))) (gS rfl (gS rfl (gS rfl (gS rfl (gS rfl (gS rfl (gS rfl g0))))))) (fun g => ?_)
                                                            refine c_seq (fun K73 hK73 => ?_)
                                                            exact (by
                                                              have hnw1 := hX.vl.new
                                                              refine fgv4 0 3 10 11 (gS rfl (gS rfl (gS rfl g0))) (gS rfl (gS rfl g0)) (gS rfl g0) g0 (fun g z0 z3 z10 z11 e0 e3 e10 e11 => ?_)
                                                              refine c_drawJ (fun s_ w_ => ∃ (g : Nat → Value) (b75 : Nat), s_ = (upd (upd (upd (upd (upd g 0 z0) 3 z3) 10 z10) 11 z11) 12 (.pointer (some ⟨b75, 0, none⟩))) ∧ Ch (fun _ => False) w72 w_ ∧ w72.heap.size ≤ b75 ∧ Blk w_ b75 ((fcv (cFr 0 false T.value (crtN T.frm T.nonce) T.frm (T.gas - intrN T) 0 [] []) (.slice none 0 0) (.slice none 0 0) 0 0 0 (List.replicate 8 0)).toArray)) Up 12 (.pure 0 (.pure 1 (.pure 2 (.pure 3 (.pure 4 (.pure 5 (.pure 6 (.pure 7 (.pure 8 (.two 9 (.pure 10 (.eff 11 (.eff 12 .fin))) 11 (.eff 9 (.pure 10 (.eff 12 .fin))))))))))))) (by kernel_rfl) (fun w76 hu => ⟨Up.refl _, ?_⟩) ?_
                                                              · skip
                                                                subst e0 e3 e10 e11
                                                                replace G := G.tr (Go.ofUp hF hu)
                                                                replace hF := hF.up hu
                                                                replace k2 := k2.up hu
                                                                replace k5 := k5.up hu
                                                                replace k17 := k17.up hu
                                                                replace hX := hX.up hu
                                                                replace U := U.tr hu
                                                                have SU := Up.refl w76
                                                                have V74 : Ch (fun _ => False) w72 w76 := hu
                                                                refine t_step (by exact rfl) (y_moveV (et (gS rfl (gS rfl (gS rfl g0))) rfl)) ?_
                                                                refine t_step (by exact rfl) (y_nil (et g0 rfl)) ?_
                                                                refine t_step (by exact rfl) (y_fld fld_75_13 (et g0 rfl)) ?_
                                                                refine t_step (by exact rfl) (y_load1 one_26 (et g0 rfl) (atS (hX.vl.c1 (show _ = some (.int .u64 (T.gas - intrN T : Nat)) from hL.txg _ rfl) rfl))) ?_
                                                                refine t_step (by exact rfl) (y_loadB agg_25 sz_25 (et (gS rfl (gS rfl (gS rfl (gS rfl g0)))) rfl) (by rw [List.size_toArray, length_bL, length_be]) (atSB k17)) ?_
                                                                refine t_step (by exact rfl) (y_fld fld_41_0 (et (gS rfl (gS rfl (gS rfl (gS rfl (gS rfl (gS rfl (gS rfl g0))))))) rfl)) ?_
                                                                refine t_step (by exact rfl) (y_loadR agg_25 sz_25 (et g0 rfl) (by rw [length_bL, length_be]) (atSR (k2.row rT1))) ?_
                                                                refine t_step (by exact rfl) (y_fld fld_41_6 (et (gS rfl (gS rfl (gS rfl (gS rfl (gS rfl (gS rfl (gS rfl (gS rfl (gS rfl g0))))))))) rfl)) ?_
                                                                refine t_step (by exact rfl) (y_loadR agg_28 sz_28 (et g0 rfl) (by rw [length_bL, length_be]) (atSR (k2.row rT5))) ?_
                                                                refine t_two ?_ ?_
                                                                · skip
                                                                  refine t_eff (by exact rfl) (e_callV cal_83 (aC (et g0 rfl) aN) (fromBytes_spec _ _)) (fun v77 w77 h77 => ?_)
                                                                  obtain ⟨rfl, u77⟩ := h77
                                                                  replace G := G.tr (Go.ofUp hF u77)
                                                                  replace hF := hF.up u77
                                                                  replace k2 := k2.up u77
                                                                  replace k5 := k5.up u77
                                                                  replace k17 := k17.up u77
                                                                  replace hX := hX.up u77
                                                                  replace U := U.tr u77
                                                                  replace V74 := V74.tr u77
                                                                  refine ⟨.inr (SU.tr u77), ?_⟩
                                                                  replace SU := SU.tr u77
                                                                  refine t_step (by exact rfl) ((y_bldMO (et (gS rfl (gS rfl (gS rfl (gS rfl (gS rfl (gS rfl g0)))))) rfl) (et (gS rfl (gS rfl (gS rfl (gS rfl (gS rfl g0))))) rfl) (et (gS rfl (gS rfl (gS rfl g0))) rfl) (et g0 rfl))) ?_
                                                                  refine t_one ?_
                                                                  refine t_eff (by exact rfl) (e_alloc zr_71) (fun v78 w78 h78 => ?_)
                                                                  obtain ⟨b78, rfl, n78⟩ := h78
                                                                  have d2_78 : b2 < b78 := Nat.lt_of_lt_of_le k2.lt n78.fresh
                                                                  have d5_78 : b5 < b78 := Nat.lt_of_lt_of_le k5.lt n78.fresh
                                                                  have d17_78 : b17 < b78 := Nat.lt_of_lt_of_le k17.lt n78.fresh
                                                                  have f78 : w.heap.size ≤ b78 := Nat.le_trans U.size n78.fresh
                                                                  have nb78 := hF.nb n78.fresh
                                                                  have fS78 := Nat.le_trans SU.size n78.fresh
                                                                  have fV74_78 := Nat.le_trans V74.size n78.fresh
                                                                  replace G := G.tr (Go.ofUp hF n78.up)
                                                                  replace hF := hF.up n78.up
                                                                  replace k2 := k2.up n78.up
                                                                  replace k5 := k5.up n78.up
                                                                  replace k17 := k17.up n78.up
                                                                  replace hX := hX.up n78.up
                                                                  replace U := U.tr n78.up
                                                                  replace V74 := V74.tr n78.up
                                                                  have k78 := n78.blk
                                                                  obtain ⟨zs78, hz78, k78⟩ : ∃ cs : Array Value, cs.size = 65 ∧ Blk w78 b78 cs := ⟨_, rfl, k78⟩
                                                                  refine ⟨.inr (SU.tr n78.up), ?_⟩
                                                                  replace SU := SU.tr n78.up
                                                                  have nc78 := hnw1 b78 (Nat.le_trans hu.size fS78)
                                                                  refine t_one ?_
                                                                  refine t_effN (by exact rfl) (e_store sz_71 (et g0 rfl) (cellsV (et (gS rfl g0) rfl) rfl) (fcv_len rfl) (by exact fcv_one) k78 (by (rw [hz78]; exact Nat.le_refl _))) (fun v79 w79 h79 => ?_)
                                                                  obtain ⟨rfl, x79⟩ := h79
                                                                  replace k2 := k2.ch x79.ch (by omega)
                                                                  replace k5 := k5.ch x79.ch (by omega)
                                                                  replace k17 := k17.ch x79.ch (by omega)
                                                                  replace hX := hX.ch x79.ch (by first | omega | (intro b hb; first | (subst hb; first | exact ⟨by omega, fun hh => by have := hfz.lt hh; omega, by omega⟩ | exact ⟨by omega, by assumption, by omega⟩) | (rcases hb with hb | hb <;> (subst hb; first | exact ⟨by omega, fun hh => by have := hfz.lt hh; omega, by omega⟩ | exact ⟨by omega, by assumption, by omega⟩))))
                                                                  replace k78 := x79.blk.full (by rw [hz78, fcv_len rfl])
                                                                  replace G := G.wr x79 (by first | exact .inr f78 | omega | (simp; omega)) nb78
                                                                  replace hF := G.fz
                                                                  replace U := U.st x79 (.inr f78)
                                                                  replace V74 := V74.st x79 (by omega)
                                                                  refine ⟨.inl rfl, ?_⟩
                                                                  refine tl5 0 3 10 11 12 (gS rfl (gS rfl (gS rfl (gS rfl (gS rfl (gS rfl (gS rfl (gS rfl (gS rfl (gS rfl (gS rfl (gS rfl (gS rfl (gS rfl (gS rfl g0))))))))))))))) (gS rfl (gS rfl (gS rfl (gS rfl (gS rfl (gS rfl (gS rfl (gS rfl (gS rfl (gS rfl (gS rfl (gS rfl (gS rfl (gS rfl g0)))))))))))))) (gS rfl (gS rfl (gS rfl (gS rfl (gS rfl (gS rfl (gS rfl (gS rfl (gS rfl (gS rfl (gS rfl (gS rfl (gS rfl g0))))))))))))) (gS rfl (gS rfl (gS rfl (gS rfl (gS rfl (gS rfl (gS rfl (gS rfl (gS rfl (gS rfl (gS rfl (gS rfl g0)))))))))))) g0 (fun g => ?_)
                                                                  exact ⟨g, _, rfl, V74, Nat.le_trans hu.size fS78, k78⟩
                                                                · skip
                                                                  refine t_eff (by exact rfl) (e_alloc zr_71) (fun v80 w80 h80 => ?_)
                                                                  obtain ⟨b80, rfl, n80⟩ := h80
                                                                  have d2_80 : b2 < b80 := Nat.lt_of_lt_of_le k2.lt n80.fresh
                                                                  have d5_80 : b5 < b80 := Nat.lt_of_lt_of_le k5.lt n80.fresh
                                                                  have d17_80 : b17 < b80 := Nat.lt_of_lt_of_le k17.lt n80.fresh
                                                                  have f80 : w.heap.size ≤ b80 := Nat.le_trans U.size n80.fresh
                                                                  have nb80 := hF.nb n80.fresh
                                                                  have fS80 := Nat.le_trans SU.size n80.fresh
                                                                  have fV74_80 := Nat.le_trans V74.size n80.fresh
                                                                  replace G := G.tr (Go.ofUp hF n80.up)
                                                                  replace hF := hF.up n80.up
                                                                  replace k2 := k2.up n80.up
                                                                  replace k5 := k5.up n80.up
                                                                  replace k17 := k17.up n80.up
                                                                  replace hX := hX.up n80.up
                                                                  replace U := U.tr n80.up
                                                                  replace V74 := V74.tr n80.up
                                                                  have k80 := n80.blk
                                                                  obtain ⟨zs80, hz80, k80⟩ : ∃ cs : Array Value, cs.size = 65 ∧ Blk w80 b80 cs := ⟨_, rfl, k80⟩
                                                                  refine ⟨.inr (SU.tr n80.up), ?_⟩
                                                                  replace SU := SU.tr n80.up
                                                                  have nc80 := hnw1 b80 (Nat.le_trans hu.size fS80)
                                                                  refine t_one ?_
                                                                  refine t_eff (by exact rfl) (e_callV cal_83 (aC (et (gS rfl g0) rfl) aN) (fromBytes_spec _ _)) (fun v81 w81 h81 => ?_)
                                                                  obtain ⟨rfl, u81⟩ := h81
                                                                  replace G := G.tr (Go.ofUp hF u81)
                                                                  replace hF := hF.up u81
                                                                  replace k2 := k2.up u81
                                                                  replace k5 := k5.up u81
                                                                  replace k17 := k17.up u81
                                                                  replace k80 := k80.up u81
                                                                  replace hX := hX.up u81
                                                                  replace U := U.tr u81
                                                                  replace V74 := V74.tr u81
                                                                  refine ⟨.inr (SU.tr u81), ?_⟩
                                                                  replace SU := SU.tr u81
                                                                  refine t_step (by exact rfl) ((y_bldMO (et (gS rfl (gS rfl (gS rfl (gS rfl (gS rfl (gS rfl (gS rfl g0))))))) rfl) (et (gS rfl (gS rfl (gS rfl (gS rfl (gS rfl (gS rfl g0)))))) rfl) (et (gS rfl (gS rfl (gS rfl (gS rfl g0)))) rfl) (et g0 rfl))) ?_
                                                                  refine t_one ?_
                                                                  refine t_effN (by exact rfl) (e_store sz_71 (et (gS rfl (gS rfl g0)) rfl) (cellsV (et g0 rfl) rfl) (fcv_len rfl) (by exact fcv_one) k80 (by (rw [hz80]; exact Nat.le_refl _))) (fun v82 w82 h82 => ?_)
                                                                  obtain ⟨rfl, x82⟩ := h82
                                                                  replace k2 := k2.ch x82.ch (by omega)
                                                                  replace k5 := k5.ch x82.ch (by omega)
                                                                  replace k17 := k17.ch x82.ch (by omega)
                                                                  replace hX := hX.ch x82.ch (by first | omega | (intro b hb; first | (subst hb; first | exact ⟨by omega, fun hh => by have := hfz.lt hh; omega, by omega⟩ | exact ⟨by omega, by assumption, by omega⟩) | (rcases hb with hb | hb <;> (subst hb; first | exact ⟨by omega, fun hh => by have := hfz.lt hh; omega, by omega⟩ | exact ⟨by omega, by assumption, by omega⟩))))
                                                                  replace k80 := x82.blk.full (by rw [hz80, fcv_len rfl])
                                                                  replace G := G.wr x82 (by first | exact .inr f80 | omega | (simp; omega)) nb80
                                                                  replace hF := G.fz
                                                                  replace U := U.st x82 (.inr f80)
                                                                  replace V74 := V74.st x82 (by omega)
                                                                  refine ⟨.inl rfl, ?_⟩
                                                                  refine tl5 0 3 10 11 12 (gS rfl (gS rfl (gS rfl (gS rfl (gS rfl (gS rfl (gS rfl (gS rfl (gS rfl (gS rfl (gS rfl (gS rfl (gS rfl (gS rfl (gS rfl g0))))))))))))))) (gS rfl (gS rfl (gS rfl (gS rfl (gS rfl (gS rfl (gS rfl (gS rfl (gS rfl (gS rfl (gS rfl (gS rfl (gS rfl (gS rfl g0)))))))))))))) (gS rfl (gS rfl (gS rfl (gS rfl (gS rfl (gS rfl (gS rfl (gS rfl (gS rfl (gS rfl (gS rfl (gS rfl (gS rfl g0))))))))))))) (gS rfl (gS rfl (gS rfl (gS rfl (gS rfl (gS rfl (gS rfl (gS rfl (gS rfl (gS rfl (gS rfl (gS rfl g0)))))))))))) (gS rfl (gS rfl g0)) (fun g => ?_)
                                                                  exact ⟨g, _, rfl, V74, Nat.le_trans hu.size fS80, k80⟩
                                                              intro s_ w83 hJ
                                                              obtain ⟨g, b75, rfl, V74, fn75, kn75⟩ := hJ
                                                              subst e0 e3 e10 e11
                                                              have d2_75 : b2 < b75 := Nat.lt_of_lt_of_le k2.lt fn75
                                                              have d5_75 : b5 < b75 := Nat.lt_of_lt_of_le k5.lt fn75
                                                              have d17_75 : b17 < b75 := Nat.lt_of_lt_of_le k17.lt fn75
                                                              have f75 : w.heap.size ≤ b75 := Nat.le_trans U.size fn75
                                                              have nb75 := hF.nb fn75
                                                              replace G := G.tr (Go.ofUp hF V74)
                                                              replace hF := hF.up V74
                                                              replace k2 := k2.up V74
                                                              replace k5 := k5.up V74
                                                              replace k17 := k17.up V74
                                                              replace hX := hX.up V74
                                                              replace U := U.tr V74
                                                              have k75 := kn75
                                                              have nc75 := hnw1 b75 fn75
                                                              refine hK73 _ _ ?_
                                                              refine c_seq (fun K84 hK84 => ?_)
                                                              refine c_seq (fun K85 hK85 => ?_)
                                                              exact (by
                                                                refine c_region ?_
                                                                refine l_step (y_fld fld_41_2 (et (gS rfl (gS rfl (gS rfl g0))) rfl)) ?_
                                                                refine l_step (y_load1 one_4 (et g0 rfl) (at1 (k2.cell (rT3 0 _ rfl)))) ?_
                                                                refine l_step (y_not (et g0 rfl)) ?_
                                                                refine l_nil ?_
                                                                refine hK85 _ _ ?_
                                                                refine fg6 0 3 10 11 12 184 (gS rfl (gS rfl (gS rfl (gS rfl (gS rfl (gS rfl (gS rfl g0))))))) (gS rfl (gS rfl (gS rfl (gS rfl (gS rfl (gS rfl g0)))))) (gS rfl (gS rfl (gS rfl (gS rfl (gS rfl g0))))) (gS rfl (gS rfl (gS rfl (gS rfl g0)))) (gS rfl (gS rfl (gS rfl g0))) g0 (fun g => ?_)
                                                                refine c_false (et g0 rfl) (by (rw [hcr]; rfl)) ?_
                                                                refine c_skip ?_
                                                                refine hK84 _ _ ?_
                                                                refine fg5 0 3 10 11 12 (gS rfl (gS rfl (gS rfl (gS rfl (gS rfl g0))))) (gS rfl (gS rfl (gS rfl (gS rfl g0)))) (gS rfl (gS rfl (gS rfl g0))) (gS rfl (gS rfl g0)) (gS rfl g0) (fun g => ?_)
                                                                refine c_seq (fun K87 hK87 => ?_)
                                                                refine c_seq (fun K88 hK88 => ?_)
                                                                exact (by
                                                                  refine c_region ?_
                                                                  refine l_step (y_moveV (et (gS rfl (gS rfl (gS rfl (gS rfl g0)))) rfl)) ?_
                                                                  refine l_step (y_loadB agg_25 sz_25 (et (gS rfl (gS rfl g0)) rfl) (by rw [List.size_toArray, length_bL, length_be]) (at1B k17)) ?_
                                                                  refine l_eff (e_callV cal_106 (aC (et (gS rfl g0) rfl) (aC (et g0 rfl) aN)) (e_taken hX.vl hX.ok hL.pS (s := bS s T) hva _ (crt_lt _ _))) (fun v89 w89 h89 => ?_)
                                                                  obtain ⟨rfl, u89⟩ := h89
                                                                  replace G := G.tr (Go.ofUp hF u89)
                                                                  replace hF := hF.up u89
                                                                  replace k2 := k2.up u89
                                                                  replace k5 := k5.up u89
                                                                  replace k17 := k17.up u89
                                                                  replace k75 := k75.up u89
                                                                  replace hX := hX.up u89
                                                                  replace U := U.tr u89
                                                                  refine l_nil ?_
                                                                  refine hK88 _ _ ?_
                                                                  refine fg5 0 3 10 12 207 (gS rfl (gS rfl (gS rfl (gS rfl (gS rfl (gS rfl (gS rfl g0))))))) (gS rfl (gS rfl (gS rfl (gS rfl (gS rfl (gS rfl g0)))))) (gS rfl (gS rfl (gS rfl (gS rfl (gS rfl g0))))) (gS rfl (gS rfl (gS rfl g0))) g0 (fun g => ?_)
                                                                  refine c_cond (et g0 rfl) (fun cB6 => ?_) (fun cB6 => ?_)
                                                                  · skip
                                                                    
                                                                    refine c_seq (fun K91 hK91 => ?_)
                                                                    exact (by
                                                                      refine c_region ?_
                                                                      refine l_step (y_moveV (et (gS rfl (gS rfl (gS rfl (gS rfl g0)))) rfl)) ?_
                                                                      refine l_step (y_nil (et g0 rfl)) ?_
                                                                      refine l_step (y_fld fld_75_9 (et g0 rfl)) ?_
                                                                      refine l_effN (e_store sz_5 (et g0 rfl) (cellsV rfl rfl) rfl (by intro v hv; simp at hv; subst hv; rfl) hX.vl.kC (by rw [hX.vl.size]; omega)) (fun v92 w92 h92 => ?_)
                                                                      obtain ⟨rfl, x92⟩ := h92
                                                                      have hv92 := hX.st x92 (by decide) (Nat.le_of_ble_eq_true rfl)
                                                                      replace G := G.chs x92.ch (by intro b hb; exact .inl trivial) (by intro q hq hh; have h9 := hX.vl.kept q hh; rw [hq] at h9; omega)
                                                                      replace hF := G.fz
                                                                      replace k2 := k2.ch x92.ch (by intro hm; first | omega | (subst hm; omega))
                                                                      replace k5 := k5.ch x92.ch (by intro hm; first | omega | (subst hm; omega))
                                                                      replace k17 := k17.ch x92.ch (by intro hm; first | omega | (subst hm; omega))
                                                                      replace k75 := k75.ch x92.ch (by intro hm; first | omega | (subst hm; omega))
                                                                      replace hX := hv92
                                                                      replace U := U.cc x92.ch (by intro b hb; exact .inl trivial)
                                                                      replace hL := (show LO _ _ bc ⟨[], s.env, T.frm, priceN s T, 2, s.status, s.applied + 1, T.gas, some (T.gas - intrN T), some (T.gas * priceN s T), (crtN T.frm T.nonce)⟩ from hL.stPh 2)
                                                                      refine l_nil ?_
                                                                      refine hK91 _ _ ?_
                                                                      refine fg2 0 10 (gS rfl (gS rfl (gS rfl (gS rfl (gS rfl (gS rfl (gS rfl g0))))))) (gS rfl (gS rfl (gS rfl (gS rfl (gS rfl g0))))) (fun g => ?_)
                                                                      refine c_seq (fun K93 hK93 => ?_)
                                                                      exact (by
                                                                        refine c_region ?_
                                                                        refine l_step (y_moveV (et (gS rfl g0) rfl)) ?_
                                                                        refine l_step (y_nil (et g0 rfl)) ?_
                                                                        refine l_step (y_fld fld_75_10 (et g0 rfl)) ?_
                                                                        refine l_effN (e_store sz_5 (et g0 rfl) (cellsV rfl rfl) rfl (by intro v hv; simp at hv; subst hv; rfl) hX.vl.kC (by rw [hX.vl.size]; omega)) (fun v94 w94 h94 => ?_)
                                                                        obtain ⟨rfl, x94⟩ := h94
                                                                        have hv94 := hX.st x94 (by decide) (Nat.le_of_ble_eq_true rfl)
                                                                        replace G := G.chs x94.ch (by intro b hb; exact .inl trivial) (by intro q hq hh; have h9 := hX.vl.kept q hh; rw [hq] at h9; omega)
                                                                        replace hF := G.fz
                                                                        replace k2 := k2.ch x94.ch (by intro hm; first | omega | (subst hm; omega))
                                                                        replace k5 := k5.ch x94.ch (by intro hm; first | omega | (subst hm; omega))
                                                                        replace k17 := k17.ch x94.ch (by intro hm; first | omega | (subst hm; omega))
                                                                        replace k75 := k75.ch x94.ch (by intro hm; first | omega | (subst hm; omega))
                                                                        replace hX := hv94
                                                                        replace U := U.cc x94.ch (by intro b hb; exact .inl trivial)
                                                                        replace hL := (show LO _ _ bc ⟨[], s.env, T.frm, priceN s T, 2, 12, s.applied + 1, T.gas, some (T.gas - intrN T), some (T.gas * priceN s T), (crtN T.frm T.nonce)⟩ from hL.stSs 12)
                                                                        refine l_nil ?_
                                                                        refine hK93 _ _ ?_
                                                                        refine fg2 0 10 (gS rfl (gS rfl (gS rfl (gS rfl g0)))) (gS rfl (gS rfl (gS rfl g0))) (fun g => ?_)
                                                                        refine c_seq (fun K95 hK95 => ?_)
                                                                        exact (by
                                                                          refine c_region ?_
                                                                          refine l_step (y_moveV (et (gS rfl g0) rfl)) ?_
                                                                          refine l_step (y_nil (et g0 rfl)) ?_
                                                                          refine l_step (y_fld fld_75_3 (et g0 rfl)) ?_
                                                                          refine l_step (y_idxAC 0 0 Hvaa.underlying72 sz_71 (et g0 rfl) rfl rfl rfl) ?_
                                                                          refine l_step (y_fld fld_71_7 (et g0 rfl)) ?_
                                                                          refine l_effN (e_store sz_26 (et g0 rfl) (cellsV rfl rfl) rfl (by intro v hv; simp at hv; subst hv; rfl) hX.vl.kC (by rw [hX.vl.size]; omega)) (fun v96 w96 h96 => ?_)
                                                                          obtain ⟨rfl, x96⟩ := h96
                                                                          have hv96 := hX.st x96 (by decide) (Nat.le_of_ble_eq_true rfl)
                                                                          replace G := G.chs x96.ch (by intro b hb; exact .inl trivial) (by intro q hq hh; have h9 := hX.vl.kept q hh; rw [hq] at h9; omega)
                                                                          replace hF := G.fz
                                                                          replace k2 := k2.ch x96.ch (by intro hm; first | omega | (subst hm; omega))
                                                                          replace k5 := k5.ch x96.ch (by intro hm; first | omega | (subst hm; omega))
                                                                          replace k17 := k17.ch x96.ch (by intro hm; first | omega | (subst hm; omega))
                                                                          replace k75 := k75.ch x96.ch (by intro hm; first | omega | (subst hm; omega))
                                                                          replace hX := hv96
                                                                          replace U := U.cc x96.ch (by intro b hb; exact .inl trivial)
                                                                          refine l_nil ?_
                                                                          refine hK95 _ _ ?_
                                                                          refine fg2 0 10 (gS rfl (gS rfl (gS rfl (gS rfl (gS rfl (gS rfl g0)))))) (gS rfl (gS rfl (gS rfl (gS rfl (gS rfl g0))))) (fun g => ?_)
                                                                          refine c_seq (fun K97 hK97 => ?_)
                                                                          exact (by
                                                                            refine c_region ?_
                                                                            refine l_step (y_moveV (et (gS rfl g0) rfl)) ?_
                                                                            refine l_step (y_moveV (et (gS rfl g0) rfl)) ?_
                                                                            refine l_step (y_nil (et (gS rfl g0) rfl)) ?_
                                                                            refine l_step (y_fld fld_75_3 (et g0 rfl)) ?_
                                                                            refine l_step (y_idxAC 0 0 Hvaa.underlying72 sz_71 (et g0 rfl) rfl rfl rfl) ?_
                                                                            refine l_step (y_fld fld_71_8 (et g0 rfl)) ?_
                                                                            refine l_effN (e_store sz_21 (et g0 rfl) (cellsV (et (gS rfl (gS rfl (gS rfl (gS rfl g0)))) rfl) rfl) rfl (by intro v hv; simp at hv; subst hv; rfl) hX.vl.kC (by rw [hX.vl.size]; omega)) (fun v98 w98 h98 => ?_)
                                                                            obtain ⟨rfl, x98⟩ := h98
                                                                            have hv98 := hX.st x98 (by decide) (Nat.le_of_ble_eq_true rfl)
                                                                            replace G := G.chs x98.ch (by intro b hb; exact .inl trivial) (by intro q hq hh; have h9 := hX.vl.kept q hh; rw [hq] at h9; omega)
                                                                            replace hF := G.fz
                                                                            replace k2 := k2.ch x98.ch (by intro hm; first | omega | (subst hm; omega))
                                                                            replace k5 := k5.ch x98.ch (by intro hm; first | omega | (subst hm; omega))
                                                                            replace k17 := k17.ch x98.ch (by intro hm; first | omega | (subst hm; omega))
                                                                            replace k75 := k75.ch x98.ch (by intro hm; first | omega | (subst hm; omega))
                                                                            replace hX := hv98
                                                                            replace U := U.cc x98.ch (by intro b hb; exact .inl trivial)
                                                                            obtain ⟨hL, hlf⟩ := hL.frm0 (.int .u64 (0 : Nat)) (.int .i32 (V.marks.length : Nat))
                                                                            refine l_nil ?_
                                                                            refine hK97 _ _ ?_
                                                                            refine fg0 (fun g => ?_)
                                                                            refine c_seq (fun K99 hK99 => ?_)
                                                                            exact (by
                                                                              refine c_region ?_
                                                                              refine l_step y_assignC ?_
                                                                              refine l_nil ?_
                                                                              refine hK99 _ _ ?_
                                                                              refine c_ret ?_
                                                                              repeat with_reducible refine then_ret ?_
                                                                              refine ret1 rfl (res_tmp (et g0 rfl)) ?_
                                                                              have htk9 : tknB (bS s T) (bTgt s T) = true := by rw [hTg]; exact cB6
                                                                              have ebY : begY s T = { bS s T with phase := 2, status := 12, left := 0 } := if_pos ⟨hcr, htk9⟩
                                                                              rw [ebY]
                                                                              have hMd : (bS s T).made = (crtN T.frm T.nonce) := (if_pos hcr).trans hTg
                                                                              have hLq := hL.q (q2 := qOf ({ bS s T with phase := 2, status := 12, left := 0 } : YSt) (some (T.gas - intrN T)) (some (T.gas * priceN s T))) (by show (⟨[], s.env, T.frm, priceN s T, 2, 12, s.applied + 1, T.gas, some (T.gas - intrN T), some (T.gas * priceN s T), (bS s T).made⟩ : LQ) = _; rw [hMd])
                                                                              have hpx : PX V72 (bS s T) [] [] 0 := open_px hi hEI vd hva (by omega) (by omega) (by omega) (by omega) hmk9 ⟨hhf, hhc⟩ _ (Nat.zero_le _)
                                                                              exact ⟨rfl, _, _, _, _, [], [], ⟨hX.vl, hX.ok, hLq.lx rfl (fun _ => hlf), hX.mx, hpx.ph rfl rfl rfl rfl rfl ⟨hhf, hhc⟩⟩, hX.et⟩)))))
                                                                  · skip
                                                                    
                                                                    refine c_skip ?_
                                                                    refine hK87 _ _ ?_
                                                                    refine fg3 0 3 12 (gS rfl (gS rfl (gS rfl (gS rfl g0)))) (gS rfl (gS rfl (gS rfl g0))) (gS rfl g0) (fun g => ?_)
                                                                    refine c_seq (fun K100 hK100 => ?_)
                                                                    exact (by
                                                                      refine c_region ?_
                                                                      refine l_step (y_fld fld_71_0 (et g0 rfl)) ?_
                                                                      refine l_effN (e_store sz_5 (et g0 rfl) (cellsV rfl rfl) rfl (by first | exact one_bL _ | exact one_uL _ | (intro v hv; simp at hv; subst hv; rfl)) k75 (by (rw [List.size_toArray, fcv_len rfl]; decide))) (fun v101 w101 h101 => ?_)
                                                                      obtain ⟨rfl, x101⟩ := h101
                                                                      replace k2 := k2.ch x101.ch (by omega)
                                                                      replace k5 := k5.ch x101.ch (by omega)
                                                                      replace k17 := k17.ch x101.ch (by omega)
                                                                      replace hX := hX.ch x101.ch (by first | omega | (intro b hb; first | (subst hb; first | exact ⟨by omega, fun hh => by have := hfz.lt hh; omega, by omega⟩ | exact ⟨by omega, by assumption, by omega⟩) | (rcases hb with hb | hb <;> (subst hb; first | exact ⟨by omega, fun hh => by have := hfz.lt hh; omega, by omega⟩ | exact ⟨by omega, by assumption, by omega⟩))))
                                                                      replace k75 := x101.blk
                                                                      replace G := G.wr x101 (by first | exact .inr f75 | omega | (simp; omega)) nb75
                                                                      replace hF := G.fz
                                                                      replace U := U.st x101 (.inr f75)
                                                                      replace k75 := Blk.fkd (q := 1) k75
                                                                      refine l_nil ?_
                                                                      refine hK100 _ _ ?_
                                                                      refine fg3 0 3 12 (gS rfl (gS rfl (gS rfl g0))) (gS rfl (gS rfl g0)) (gS rfl g0) (fun g => ?_)
                                                                      refine c_seq (fun K102 hK102 => ?_)
                                                                      exact (by
                                                                        refine c_region ?_
                                                                        refine l_step (y_fld fld_41_7 (et (gS rfl g0) rfl)) ?_
                                                                        refine l_step (y_load1 one_38 (et g0 rfl) (at1 (k2.cell (rT6 0 _ rfl)))) ?_
                                                                        refine l_eff (e_callV cal_104 (aC (et g0 rfl) aN) (engine_copied _ _ _ T.data _ _ hF ((hTd.mono hL0).wv hF) (Nat.le_refl _) (by omega))) (fun v103 w103 h103 => ?_)
                                                                        obtain ⟨H103, g103, bv9⟩ := h103
                                                                        have hXn103 := hX.gn g103
                                                                        have hlew103 := g103.le
                                                                        replace nb2 := g103.nb nb2 k2.lt
                                                                        replace nb5 := g103.nb nb5 k5.lt
                                                                        replace nb17 := g103.nb nb17 k17.lt
                                                                        replace nb75 := g103.nb nb75 k75.lt
                                                                        replace hL0 := hL0.trans hlew103
                                                                        replace k2 := k2.up g103.up
                                                                        replace k5 := k5.up g103.up
                                                                        replace k17 := k17.up g103.up
                                                                        replace k75 := k75.up g103.up
                                                                        replace hX := hX.up g103.up
                                                                        replace U := U.tr g103.up
                                                                        replace G := G.tr g103
                                                                        replace hF := g103.fz
                                                                        obtain ⟨ca9, cc9, rfl⟩ := bv9.sl
                                                                        replace hX := hXn103
                                                                        replace hL := hL.mono g103.le
                                                                        refine l_step (y_fld fld_71_12 (et (gS rfl (gS rfl (gS rfl g0))) rfl)) ?_
                                                                        refine l_effN (e_store sz_38 (et g0 rfl) (cellsV (et (gS rfl g0) rfl) rfl) rfl (by first | exact one_bL _ | exact one_uL _ | (intro v hv; simp at hv; subst hv; rfl)) k75 (by (rw [List.size_toArray, fcv_len rfl]; decide))) (fun v104 w104 h104 => ?_)
                                                                        obtain ⟨rfl, x104⟩ := h104
                                                                        replace k2 := k2.ch x104.ch (by omega)
                                                                        replace k5 := k5.ch x104.ch (by omega)
                                                                        replace k17 := k17.ch x104.ch (by omega)
                                                                        replace hX := hX.ch x104.ch (by first | omega | (intro b hb; first | (subst hb; first | exact ⟨by omega, fun hh => by have := hfz.lt hh; omega, by omega⟩ | exact ⟨by omega, by assumption, by omega⟩) | (rcases hb with hb | hb <;> (subst hb; first | exact ⟨by omega, fun hh => by have := hfz.lt hh; omega, by omega⟩ | exact ⟨by omega, by assumption, by omega⟩))))
                                                                        replace k75 := x104.blk
                                                                        replace G := G.wr x104 (by first | exact .inr f75 | omega | (simp; omega)) nb75
                                                                        replace hF := G.fz
                                                                        replace U := U.st x104 (.inr f75)
                                                                        replace k75 := Blk.fco (q := _) k75
                                                                        refine l_nil ?_
                                                                        refine hK102 _ _ ?_
                                                                        refine fg2 0 12 (gS rfl (gS rfl (gS rfl (gS rfl (gS rfl (gS rfl g0)))))) (gS rfl (gS rfl (gS rfl (gS rfl g0)))) (fun g => ?_)
                                                                        refine c_seq (fun K105 hK105 => ?_)
                                                                        exact (by
                                                                          refine c_region ?_
                                                                          refine l_step (y_moveV (et (gS rfl g0) rfl)) ?_
                                                                          have euu : (cFr 1 false T.value (crtN T.frm T.nonce) T.frm (T.gas - intrN T) 0 T.data []) = { cFr 1 false T.value (crtN T.frm T.nonce) T.frm (T.gas - intrN T) 0 [] [] with code := T.data, input := [] } := rfl
                                                                          have ebf : bF s T = (cFr 1 false T.value (crtN T.frm T.nonce) T.frm (T.gas - intrN T) 0 T.data []) := by unfold bF; rw [if_pos hcr, hTg]
                                                                          have hbc : BV H103 (.slice ca9 (cFr 1 false T.value (crtN T.frm T.nonce) T.frm (T.gas - intrN T) 0 T.data []).code.length cc9) (cFr 1 false T.value (crtN T.frm T.nonce) T.frm (T.gas - intrN T) 0 T.data []).code := bv9
                                                                          have hbi : BV H103 (.slice none (cFr 1 false T.value (crtN T.frm T.nonce) T.frm (T.gas - intrN T) 0 T.data []).input.length 0) (cFr 1 false T.value (crtN T.frm T.nonce) T.frm (T.gas - intrN T) 0 T.data []).input := (BV.nil _)
                                                                          replace k75 : Blk w104 b75 (fcv (cFr 1 false T.value (crtN T.frm T.nonce) T.frm (T.gas - intrN T) 0 T.data []) (.slice ca9 (cFr 1 false T.value (crtN T.frm T.nonce) T.frm (T.gas - intrN T) 0 T.data []).code.length cc9) (.slice none (cFr 1 false T.value (crtN T.frm T.nonce) T.frm (T.gas - intrN T) 0 T.data []).input.length 0) 0 0 0 (List.replicate 8 0)).toArray := by
                                                                            show Blk _ _ (fcv (cFr 1 false T.value (crtN T.frm T.nonce) T.frm (T.gas - intrN T) 0 T.data []) (.slice ca9 (T.data).length cc9) (.slice none ([] : List Nat).length 0) 0 0 0 (List.replicate 8 0)).toArray
                                                                            rw [euu, fcv_ci]
                                                                            exact k75
                                                                          have hMd : (bS s T).made = (crtN T.frm T.nonce) := (if_pos hcr).trans hTg
                                                                          have hLq := hL.q (q2 := qOf (bS s T) (some (T.gas - intrN T)) (some (T.gas * priceN s T))) (by unfold qOf; rw [hMd]; rfl)
                                                                          have hpx : PX V72 (bS s T) [] [] ((T.gas - intrN T) + 100) := open_px hi hEI vd hva (by omega) (by omega) (by omega) (by omega) hmk9 ⟨hhf, hhc⟩ _ (Nat.le_refl _)
                                                                          have hXT := hX.xt (hLq.lx rfl (fun h9 => absurd h9 (by show ¬ s.phase = 2; omega))) hpx
                                                                          have hcl9 : ∀ a, (acctAt (bW s T).accts a).code.length ≤ 512 := fun a => hXT.ex.codeLen a
                                                                          have hU : EFB (cFr 1 false T.value (crtN T.frm T.nonce) T.frm (T.gas - intrN T) 0 T.data []) := ⟨by show 1 < 8; decide, by show 0 < 8; decide, Nat.zero_le _, Nat.zero_le _, fun _ h => absurd h List.not_mem_nil, by show (T.gas - intrN T) ≤ 1048576; omega, by show (crtN T.frm T.nonce) < A160; exact crt_lt _ _, tok.frm, tok.value, by show (T.data).length ≤ 512; exact (vd.init hcr), by show ([] : List Nat).length ≤ 717280; exact Nat.zero_le _, Nat.zero_le _, Nat.zero_le _, hbc.dig, hbi.dig⟩
                                                                          have hcc : 0 + (cFr 1 false T.value (crtN T.frm T.nonce) T.frm (T.gas - intrN T) 0 T.data []).gas + (if crN (cFr 1 false T.value (crtN T.frm T.nonce) T.frm (T.gas - intrN T) 0 T.data []).kind = true then 50 else 0) + (if (cFr 1 false T.value (crtN T.frm T.nonce) T.frm (T.gas - intrN T) 0 T.data []).kind ≠ 3 ∧ (cFr 1 false T.value (crtN T.frm T.nonce) T.frm (T.gas - intrN T) 0 T.data []).kind ≠ 7 ∧ (cFr 1 false T.value (crtN T.frm T.nonce) T.frm (T.gas - intrN T) 0 T.data []).value ≠ 0 then 50 else 0) ≤ (T.gas - intrN T) + 100 := by
                                                                            show 0 + (T.gas - intrN T) + _ + _ ≤ _
                                                                            split <;> split <;> omega
                                                                          have hmk : 100 * V72.marks.length + (gasS (bS s T) + ((T.gas - intrN T) + 100)) ≤ 1048576 := by
                                                                            rw [hmk9, show gasS (bS s T) = 0 from rfl]
                                                                            show 100 * 0 + _ ≤ _
                                                                            omega
                                                                          have hle : (cFr 1 false T.value (crtN T.frm T.nonce) T.frm (T.gas - intrN T) 0 T.data []).kind ≠ 3 → (cFr 1 false T.value (crtN T.frm T.nonce) T.frm (T.gas - intrN T) 0 T.data []).kind ≠ 7 → (cFr 1 false T.value (crtN T.frm T.nonce) T.frm (T.gas - intrN T) 0 T.data []).value ≤ (acctAt (entA1 (bS s T).now (cFr 1 false T.value (crtN T.frm T.nonce) T.frm (T.gas - intrN T) 0 T.data [])) (cFr 1 false T.value (crtN T.frm T.nonce) T.frm (T.gas - intrN T) 0 T.data []).caller).bal := by
                                                                            intro _ _
                                                                            rw [show entA1 (bS s T).now (cFr 1 false T.value (crtN T.frm T.nonce) T.frm (T.gas - intrN T) 0 T.data []) = putA (bW s T).accts (setNon (acctAt (bW s T).accts (crtN T.frm T.nonce)) 1) from if_pos rfl, bal_non]
                                                                            show T.value ≤ (acctAt (bW s T).accts T.frm).bal
                                                                            rw [bA2_frm]
                                                                            omega
                                                                          have hov : (cFr 1 false T.value (crtN T.frm T.nonce) T.frm (T.gas - intrN T) 0 T.data []).kind ≠ 3 → (cFr 1 false T.value (crtN T.frm T.nonce) T.frm (T.gas - intrN T) 0 T.data []).kind ≠ 7 → (cFr 1 false T.value (crtN T.frm T.nonce) T.frm (T.gas - intrN T) 0 T.data []).value ≠ 0 → (acctAt (takeB (entA1 (bS s T).now (cFr 1 false T.value (crtN T.frm T.nonce) T.frm (T.gas - intrN T) 0 T.data [])) (cFr 1 false T.value (crtN T.frm T.nonce) T.frm (T.gas - intrN T) 0 T.data []).caller (cFr 1 false T.value (crtN T.frm T.nonce) T.frm (T.gas - intrN T) 0 T.data []).value) (cFr 1 false T.value (crtN T.frm T.nonce) T.frm (T.gas - intrN T) 0 T.data []).self).bal + (cFr 1 false T.value (crtN T.frm T.nonce) T.frm (T.gas - intrN T) 0 T.data []).value < W256 := by
                                                                            intro _ _ _
                                                                            rw [show entA1 (bS s T).now (cFr 1 false T.value (crtN T.frm T.nonce) T.frm (T.gas - intrN T) 0 T.data []) = putA (bW s T).accts (setNon (acctAt (bW s T).accts (crtN T.frm T.nonce)) 1) from if_pos rfl]
                                                                            refine ((WI.bw hi vd).non (crtN T.frm T.nonce) 1).room (a := T.frm) (b := (crtN T.frm T.nonce)) (v := T.value) ?_
                                                                            show T.value ≤ (acctAt (putA (bW s T).accts (setNon (acctAt (bW s T).accts (crtN T.frm T.nonce)) 1)) T.frm).bal
                                                                            rw [bal_non, bA2_frm]
                                                                            omega
                                                                          refine l_step (y_loadB agg_71 sz_71 (et (gS rfl g0) rfl) (by rw [List.size_toArray, fcv_len rfl]) (at1B k75)) ?_
                                                                          exact (by
                                                                            refine l_eff (e_callV cal_105 (aC (et (gS rfl g0) rfl) (aC (et g0 rfl) aN)) (m_enter hXT.ex (by show s.phase ≤ 1; omega) (Nat.zero_le _) (Nat.zero_le _) (u := (cFr 1 false T.value (crtN T.frm T.nonce) T.frm (T.gas - intrN T) 0 T.data [])) hbc hbi hU rfl (c' := 0) (by show s.applied + 1 ≤ 4; have := vd.ap; omega) hmk hcc hht hhf hle hov hLq.lim hLq.mad ⟨hhf, hhc⟩)) (fun v106 w106 h106 => ?_)
                                                                            obtain ⟨rfl, cl106, cs106, V106, y106⟩ := h106
                                                                            replace G := G.chs y106.et.go.ch (by intro b hb; exact .inl trivial) (by intro q hq hh; have h9 := hX.vl.kept q hh; (have e0 := hq); omega)
                                                                            replace hF := G.fz
                                                                            replace k2 := k2.ch y106.et.go.ch (by intro hm; (have e0 := hm); omega)
                                                                            replace k5 := k5.ch y106.et.go.ch (by intro hm; (have e0 := hm); omega)
                                                                            replace k17 := k17.ch y106.et.go.ch (by intro hm; (have e0 := hm); omega)
                                                                            replace k75 := k75.ch y106.et.go.ch (by intro hm; (have e0 := hm); omega)
                                                                            replace hX := hX.trans y106.xr
                                                                            replace U := U.cc y106.et.go.ch (by intro b hb; exact .inl trivial)
                                                                            refine l_nil ?_
                                                                            refine hK105 _ _ ?_
                                                                            refine fg0 (fun g => ?_)
                                                                            refine c_seq (fun K107 hK107 => ?_)
                                                                            exact (by
                                                                              refine c_region ?_
                                                                              refine l_step y_assignC ?_
                                                                              refine l_nil ?_
                                                                              refine hK107 _ _ ?_
                                                                              refine c_ret ?_
                                                                              repeat with_reducible refine then_ret ?_
                                                                              refine ret1 rfl (res_tmp (et g0 rfl)) ?_
                                                                              have ebY : begY s T = entY { bS s T with phase := 1 } (cFr 1 false T.value (crtN T.frm T.nonce) T.frm (T.gas - intrN T) 0 T.data []) := by
                                                                                unfold begY
                                                                                rw [if_neg (fun h9 => by have h8 := h9.2; rw [hTg, cB6] at h8; cases h8), ebf]
                                                                              rw [ebY]
                                                                              exact ⟨rfl, _, _, _, _, _, _, y106.ex, hX.et⟩)))))))))))))))))))))))))))))))))))))
end Go.Proofs.YgvaawGreat
