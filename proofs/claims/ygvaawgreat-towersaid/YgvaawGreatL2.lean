import Derived.Test.YgvaawGreatQ10
import Derived.Test.YgvaawGreatL1
set_option maxRecDepth 100000
set_option maxHeartbeats 4000000
set_option linter.unusedSimpArgs false
set_option linter.unusedVariables false
namespace Go.Proofs.YgvaawGreat
open Go
/-! The engine idle; its Export. -/
theorem LO.le {H H' : Store} {cs : Array Value} {bc : Nat} {q : LQ} (h : LO H cs bc q) (hl : Le H H') : LO H' cs bc q := h.mono hl
theorem XI.go {M : Nat → Prop} {w w' : World} {H H' : Store} {col : Nat → Nat} {bc : Nat} {s : YSt} (h : XI w H col bc s) (g : Go M w H w' H') (hM : ∀ b, M b → col b = 0) : XI w' H' col bc s := by
  obtain ⟨cs, V, tg, hd, hX, hL, hv, he⟩ := h.ex
  obtain ⟨bm, cm, n, hm⟩ := hX.mx
  exact ⟨cs, V, tg, hd, ⟨hX.vl.go g hM, hX.ok, ⟨bm, cm, n, hm.ch g.ch (fun h8 h9 => by have := hM _ h9; omega)⟩, ⟨Go.refl g.fz, fun _ _ => rfl⟩⟩, hL.mono g.le, hv, he⟩
theorem XI.fz {w : World} {H : Store} {col : Nat → Nat} {bc : Nat} {s : YSt} (h : XI w H col bc s) : Fz w H := by
  obtain ⟨cs, V, tg, hd, hX, _⟩ := h.ex
  exact hX.vl.fz
theorem XI.new {w : World} {H : Store} {col : Nat → Nat} {bc : Nat} {s : YSt} (h : XI w H col bc s) : ∀ b, w.heap.size ≤ b → col b = 0 := by
  obtain ⟨cs, V, tg, hd, hX, _⟩ := h.ex
  exact hX.vl.new
theorem XI.of {w0 w : World} {H0 H : Store} {col0 col : Nat → Nat} {bc : Nat} {cs : Array Value} {V : EV} {s : YSt} {tg hd : Option Nat} (hX : XR w0 H0 col0 w H col bc cs V []) (hL : LO H cs bc (qOf s tg hd)) (hv : VA V (absY s.now) [] (slF s.now.accts)) (he : EI V s) : XI w H col bc s :=
  ⟨cs, V, tg, hd, ⟨hX.vl, hX.ok, hX.mx, ⟨Go.refl hX.vl.fz, fun _ _ => rfl⟩⟩, hL, hv, he⟩
theorem XI.ibd {w : World} {H : Store} {col : Nat → Nat} {bc : Nat} {s : YSt} (h : XI w H col bc s) (hi : II s) : IBd s := by
  obtain ⟨cs, V, tg, hd, hX, hL, hv, he⟩ := h.ex
  exact ibd_of hi hX.vl hX.ok hv
theorem pt_rows {α : Type} {P : Cp α} {k : Nat} {H : Store} {C : Array Value} {xs : List α} (h : ∀ (i : Nat) x, xs[i]? = some x → ∃ c, c.length = k ∧ RowIn C (i * k) c ∧ P H c x) : ∀ m, m ≤ xs.length → ∃ cs : List (List Value), cs.length = m ∧ cs.flatten.length = m * k ∧ RowIn C 0 cs.flatten ∧ ∀ (i : Nat) c x, cs[i]? = some c → xs[i]? = some x → c.length = k ∧ P H c x
  | 0, _ => ⟨[], rfl, by simp, fun i v hv => by simp at hv, fun i c x hc => by simp at hc⟩
  | m + 1, hm => by
    obtain ⟨cs, h1, h2, h3, h4⟩ := pt_rows h m (by omega)
    obtain ⟨c, g1, g2, g3⟩ := h m xs[m] (List.getElem?_eq_getElem (by omega))
    refine ⟨cs ++ [c], by rw [List.length_append, h1]; rfl, by rw [List.flatten_append, List.length_append, h2, List.flatten_singleton, g1, Nat.add_mul, Nat.one_mul], ?_, fun i d x hd hx => ?_⟩
    · rw [List.flatten_append, List.flatten_singleton]
      intro j v hv
      rcases Nat.lt_or_ge j cs.flatten.length with hj | hj
      · rw [List.getElem?_append_left hj] at hv
        exact h3 j v hv
      · rw [List.getElem?_append_right hj] at hv
        have := g2 _ v hv
        rw [show m * k + (j - cs.flatten.length) = 0 + j by omega] at this
        exact this
    · rcases Nat.lt_or_ge i cs.length with hi | hi
      · rw [List.getElem?_append_left hi] at hd
        exact h4 i d x hd hx
      · rw [List.getElem?_append_right hi] at hd
        have h0 : i - cs.length = 0 := by
          rcases Nat.eq_zero_or_pos (i - cs.length) with h0 | h0
          · exact h0
          · rw [List.getElem?_eq_none (by simp; omega)] at hd; cases hd
        rw [h0] at hd
        simp at hd
        subst hd
        have hi2 : i = m := by omega
        rw [hi2, List.getElem?_eq_getElem (by omega)] at hx
        cases hx
        exact ⟨g1, g3⟩
theorem AR.lv {α : Type} {P : Cp α} {w : World} {H H1 : Store} {k b : Nat} {v : Value} {c : Array Value} {xs : List α} (h : AR P w H k v b c xs) (hl : Le H H1) (hb : v.ownBlock = some b → H1 b = some c) (mc : MC P := by first | with_reducible exact mc_addr | with_reducible exact mc_word | with_reducible exact mc_slot | with_reducible exact mc_acct | with_reducible exact mc_mark | with_reducible exact mc_tri | with_reducible exact mc_log | with_reducible exact mc_nat | with_reducible exact mc_access | with_reducible exact mc_sk | with_reducible exact mc_ea | with_reducible exact mc_es | with_reducible exact mc_raw | with_reducible exact mc_oslot | with_reducible exact mc_oacct | with_reducible exact mc_tx | assumption) : LV P k H1 v xs := by
  rcases h.gb.at' with ⟨h1, h2⟩ | ⟨cap, h1, h2, h3, h4, h5⟩
  · rw [h1, List.length_eq_zero_iff.1 h2]
    exact LV.nil _ _ _
  · obtain ⟨cs, g1, g2, g3, g4⟩ := pt_rows h.pt xs.length (Nat.le_refl _)
    have hm : cap ≤ 9223372036854775807 := by simpa [maxLen] using h3
    exact ⟨cs, ⟨g2, .inr ⟨b, 0, cap, c, h1, h2, by omega, hb (by rw [h1]; rfl), g3⟩⟩, g1, fun i c x hc hx => ⟨(g4 i c x hc hx).1, mc.m _ _ _ _ hl (g4 i c x hc hx).2⟩⟩
theorem SC.acc {H : Store} {cs : Array Value} {s : YSt} {vf : Value} (h : SC H cs s vf) : ∃ aa ac, cs[0]? = some (.slice aa s.now.accts.length ac) ∧ LV P_acct 24 H (.slice aa s.now.accts.length ac) s.now.accts := by
  obtain ⟨aa, ac, wa, wc, sa, sc, vr, la, lc, ta, tc, ma, mc, ga, gc, oa, oc, ra, rc, vlim, vtx, vleft, vpr, vtot, r1, r2, r3, h1, _⟩ := h.ex
  exact ⟨aa, ac, by have := r1 0 _ rfl; exact this, h1⟩
/-- the vault's Export over the engine idle -/
theorem v_exportX {w : World} {H : Store} {col : Nat → Nat} {bc : Nat} {s : YSt} (h : XI w H col bc s) (hi : II s) : Ret 22 [.pointer (some ⟨bc, 2435, none⟩)] w (fun v w' => ∃ H', Fz w' H' ∧ Le H H' ∧ LV P_oacct 55 H' v (expL s.now.accts) ∧ Up w w') := by
  obtain ⟨cs, V, tg, hd, hX, hL, hv, he⟩ := h.ex
  have hV := hX.vl
  obtain ⟨va, ba, ca, a1, a2, a3⟩ := hV.acc
  obtain ⟨vs, bs, cs2, s1, s2, s3⟩ := hV.slo
  obtain ⟨aa, ac, ea⟩ := a2.len
  obtain ⟨sa, sc, es⟩ := s2.len
  let H1 : Store := fun q => if va.ownBlock = some q then some ca else if vs.ownBlock = some q then some cs2 else H q
  have own1 : ∀ q, va.ownBlock = some q → q = ba ∧ Blk w ba ca := fun q hq => by
    rcases a2.gb.at' with ⟨h1, _⟩ | ⟨cap, h1, _, _, _, h5⟩
    · rw [h1] at hq; cases hq
    · rw [h1] at hq; cases hq; exact ⟨rfl, h5⟩
  have own2 : ∀ q, vs.ownBlock = some q → q = bs ∧ Blk w bs cs2 := fun q hq => by
    rcases s2.gb.at' with ⟨h1, _⟩ | ⟨cap, h1, _, _, _, h5⟩
    · rw [h1] at hq; cases hq
    · rw [h1] at hq; cases hq; exact ⟨rfl, h5⟩
  have hle : Le H H1 := fun q c hq => by
    show (if va.ownBlock = some q then some ca else if vs.ownBlock = some q then some cs2 else H q) = some c
    have h0 := hV.kept q ⟨c, hq⟩
    rw [if_neg (fun e => by obtain ⟨e1, _⟩ := own1 q e; rw [e1] at e h0; have := a3 e; omega), if_neg (fun e => by obtain ⟨e1, _⟩ := own2 q e; rw [e1] at e h0; have := s3 e; omega)]
    exact hq
  have hF1 : Fz w H1 := ⟨fun q c hq => by
    have hq : (if va.ownBlock = some q then some ca else if vs.ownBlock = some q then some cs2 else H q) = some c := hq
    by_cases e : va.ownBlock = some q
    · rw [if_pos e] at hq
      cases hq
      obtain ⟨e1, e2⟩ := own1 q e
      rw [e1]; exact e2.r
    · rw [if_neg e] at hq
      by_cases e3 : vs.ownBlock = some q
      · rw [if_pos e3] at hq
        cases hq
        obtain ⟨e1, e2⟩ := own2 q e3
        rw [e1]; exact e2.r
      · rw [if_neg e3] at hq
        exact hV.fz.blk q c hq⟩
  have hA : LV P_ea 29 H1 va V.accts := a2.lv hle (fun e => if_pos e)
  have hS : LV P_es 14 H1 vs V.slots := s2.lv hle (fun e => by
    show (if va.ownBlock = some bs then some ca else if vs.ownBlock = some bs then some cs2 else H bs) = some cs2
    rw [if_neg (fun e2 => by obtain ⟨e1, _⟩ := own1 bs e2; rw [e1] at e2; have h3 := a3 e2; have h4 := s3 e; rw [e1] at h4; omega), if_pos e])
  rw [ea] at a1 hA
  rw [es] at s1 hS
  exact (v_export hF1 hV.kC a1 s1 hA hS hX.ok).mono (fun v w' ⟨H', L, g, h1, h2⟩ => ⟨H', g.fz, hle.trans g.le, by rw [← exp_eq hi.ok hX.ok hv.abs h2]; exact h1, g.up⟩)
theorem exp_sub {l : List YAcct} {A : YAcct} (h : A ∈ expL l) : A ∈ l := (List.mem_filter.1 h).1
theorem exp_ll (l : List YAcct) : (expL l).length ≤ l.length := List.length_filter_le _ _
theorem e_export {w : World} {H : Store} {col : Nat → Nat} {bc : Nat} {s : YSt} (hX : XI w H col bc s) (hi : II s) :
    Ret 9 [.pointer (some ⟨bc, 0, none⟩)] w (fun v w' => ∃ H', Fz w' H' ∧ Le H H' ∧ LV P_oacct 55 H' v (expL s.now.accts) ∧ Up w w') := by
  refine enter (n := 7) Hvaa.func9 rfl rfl (Nat.le_of_ble_eq_true rfl) ?_
  have U := Up.refl w
  refine c_seq (fun K1 hK1 => ?_)
  exact (by
    refine c_region ?_
    refine l_step y_assignC ?_
    refine l_nil ?_
    refine hK1 _ _ ?_
    refine fg1 0 (gS rfl g0) (fun g => ?_)
    refine c_seq (fun K2 hK2 => ?_)
    exact (by
      refine c_region ?_
      refine l_step (y_moveV (et g0 rfl)) ?_
      refine l_step (y_nil (et g0 rfl)) ?_
      refine l_step (y_fld fld_91_1 (et g0 rfl)) ?_
      refine l_eff (e_callV cal_22 (aC (et g0 rfl) aN) (v_exportX hX hi)) (fun v3 w3 h3 => ?_)
      obtain ⟨H3, f93, l93, v93, u3⟩ := h3
      replace U := U.tr u3
      refine l_step (y_assignV (et g0 rfl)) ?_
      refine l_nil ?_
      refine hK2 _ _ ?_
      refine fg1 2 g0 (fun g => ?_)
      refine c_ret ?_
      repeat with_reducible refine then_ret ?_
      refine ret1 rfl (res_tmp (et g0 rfl)) ?_
      exact ⟨_, f93, l93, v93, U⟩))
theorem law_towerHolds {w : World} {H : Store} (hF : Fz w H) {ver sts used made : Nat} {oa ob la lb wa wb : Option Addr} {oc od lc ld wc wd : Nat} {out : List Nat} {xs : List YLog} {ws : List YAcct} (hO1 : BV H (.slice oa out.length oc) out) (hO2 : BV H (.slice ob out.length od) out) (hL1 : LV P_log 22 H (.slice la xs.length lc) xs) (hL2 : LV P_log 22 H (.slice lb xs.length ld) xs) (hln : xs.length < 9223372036854775808) (hlg : ∀ x ∈ xs, x.topics.length ≤ 4) (hW1 : LV P_oacct 55 H (.slice wa ws.length wc) ws) (hW2 : LV P_oacct 55 H (.slice wb ws.length wd) ws) (hwl : ws.length < 9223372036854775808) (hws : ∀ x ∈ ws, x.slots.length < 9223372036854775807) (hst : sts ≤ 12) :
    Ret 7 [.agg (rcC ver sts used (.slice oa out.length oc) (.slice la xs.length lc) made).toArray, .agg (rcC ver sts used (.slice ob out.length od) (.slice lb xs.length ld) made).toArray, .slice wa ws.length wc, .slice wb ws.length wd] w (fun v w' => v = .bool true ∧ Up w w') := by
  refine enter (n := 22) Hvaa.func7 rfl rfl (Nat.le_of_ble_eq_true rfl) ?_
  have U := Up.refl w
  have G : Go (No) w H w H := Go.refl hF
  have hL0 : Le H H := Le.refl H
  refine c_seq (fun K1 hK1 => ?_)
  exact (by
    refine c_region ?_
    refine l_eff (e_boxV (et g0 rfl)) (fun v2 w2 h2 => ?_)
    obtain ⟨b2, rfl, n2⟩ := h2
    have f2 : w.heap.size ≤ b2 := Nat.le_trans U.size n2.fresh
    have nb2 := hF.nb n2.fresh
    replace G := G.tr (Go.ofUp hF n2.up)
    replace hF := hF.up n2.up
    replace U := U.tr n2.up
    have k2 := n2.blk
    replace k2 : Blk w2 b2 (rcC ver sts used (.slice oa out.length oc) (.slice la xs.length lc) made).toArray := k2
    refine l_eff (e_boxV (et (gS rfl (gS rfl g0)) rfl)) (fun v3 w3 h3 => ?_)
    obtain ⟨b3, rfl, n3⟩ := h3
    have d2_3 : b2 < b3 := Nat.lt_of_lt_of_le k2.lt n3.fresh
    have f3 : w.heap.size ≤ b3 := Nat.le_trans U.size n3.fresh
    have nb3 := hF.nb n3.fresh
    replace G := G.tr (Go.ofUp hF n3.up)
    replace hF := hF.up n3.up
    replace k2 := k2.up n3.up
    replace U := U.tr n3.up
    have k3 := n3.blk
    replace k3 : Blk w3 b3 (rcC ver sts used (.slice ob out.length od) (.slice lb xs.length ld) made).toArray := k3
    refine l_step y_assignC ?_
    refine l_nil ?_
    refine hK1 _ _ ?_
    refine fg4 3 2 4 5 (gS rfl (gS rfl (gS rfl (gS rfl (gS rfl (gS rfl g0)))))) (gS rfl (gS rfl (gS rfl (gS rfl (gS rfl g0))))) (gS rfl (gS rfl g0)) (gS rfl g0) (fun g => ?_)
    refine c_seq (fun K4 hK4 => ?_)
    exact (by
      refine c_region ?_
      refine l_step (y_loadB agg_44 sz_44 (et (gS rfl g0) rfl) (by rw [List.size_toArray, rcC_len]) (at1B k2)) ?_
      refine l_step (y_loadB agg_44 sz_44 (et (gS rfl g0) rfl) (by rw [List.size_toArray, rcC_len]) (at1B k3)) ?_
      refine l_eff (e_callV cal_17 (aC (et (gS rfl g0) rfl) (aC (et g0 rfl) aN)) (law_receiptsMeet hF hO1 hO2 hL1 hL2 hln hlg)) (fun v5 w5 h5 => ?_)
      obtain ⟨rfl, u5⟩ := h5
      replace G := G.tr (Go.ofUp hF u5)
      replace hF := hF.up u5
      replace k2 := k2.up u5
      replace k3 := k3.up u5
      replace U := U.tr u5
      refine l_step (y_moveV (et g0 rfl)) ?_
      refine gsplitL (i := 12) g0 (fun q6 => ?_) (fun q6 => ?_)
      · skip
        refine l_gstep (j := 3) (t := 12) (by exact rfl) (by exact rfl) (et g0 rfl) (by decide) (y_moveV (et (gS rfl (gS rfl (gS rfl (gS rfl (gS rfl (gS rfl (gS rfl g0))))))) rfl)) ?_
        refine l_gstep (j := 3) (t := 12) (by exact rfl) (by exact rfl) (et (gS rfl g0) rfl) (by decide) (y_moveV (et (gS rfl (gS rfl (gS rfl (gS rfl (gS rfl (gS rfl (gS rfl (gS rfl (gS rfl g0))))))))) rfl)) ?_
        refine l_geff (j := 3) (t := 12) (by exact rfl) (by exact rfl) (et (gS rfl (gS rfl g0)) rfl) rfl (e_callV cal_18 (aC (et (gS rfl g0) rfl) (aC (et g0 rfl) aN)) (law_worldsMeet hF hW1 hW2 hwl hws)) (fun v7 w7 h7 => ?_)
        obtain ⟨rfl, u7⟩ := h7
        replace G := G.tr (Go.ofUp hF u7)
        replace hF := hF.up u7
        replace k2 := k2.up u7
        replace k3 := k3.up u7
        replace U := U.tr u7
        refine l_step (y_pickT (et (gS rfl (gS rfl (gS rfl g0))) rfl) (et g0 rfl)) ?_
        refine l_step (y_moveV (et g0 rfl)) ?_
        refine gsplitL (i := 17) g0 (fun q8 => ?_) (fun q8 => ?_)
        · skip
          refine l_gstep (j := 8) (t := 17) (by exact rfl) (by exact rfl) (et g0 rfl) (by decide) (y_fld fld_44_1 (et (gS rfl (gS rfl (gS rfl (gS rfl (gS rfl (gS rfl (gS rfl (gS rfl (gS rfl (gS rfl (gS rfl (gS rfl g0)))))))))))) rfl)) ?_
          refine l_gstep (j := 8) (t := 17) (by exact rfl) (by exact rfl) (et (gS rfl g0) rfl) (by decide) (y_load1 one_5 (et g0 rfl) (at1 (k2.cell (show _ = some (Value.int .u8 (sts : Nat)) from rfl)))) ?_
          refine l_gstep (j := 8) (t := 17) (by exact rfl) (by exact rfl) (et (gS rfl (gS rfl g0)) rfl) (by decide) (y_neq (et g0 rfl) rfl) ?_
          refine l_step (y_pickT (et (gS rfl (gS rfl (gS rfl g0))) rfl) (et g0 rfl)) ?_
          refine l_step (y_assignV (et g0 rfl)) ?_
          refine l_nil ?_
          refine hK4 _ _ ?_
          refine fg1 8 g0 (fun g => ?_)
          refine c_ret ?_
          repeat with_reducible refine then_ret ?_
          refine ret1 rfl (res_tmp (et g0 rfl)) ?_
          exact ⟨congrArg Value.bool (decide_eq_true (by omega)), U⟩
        · skip
          cases q8
      · skip
        cases q6))
theorem law_newsHold {w : World} {H : Store} (hF : Fz w H) {l : List YAcct} {wa ha : Option Addr} {wc hc : Nat} {e : YEnv} (hW : LV P_oacct 55 H (.slice wa l.length wc) l) (hlm : l.length < 9223372036854775808) {t : Bool} (ht : t = true ↔ WOk l ∧ e.hashes.length ≤ 4) :
    Ret 13 [(.slice wa l.length wc), .agg (envC e (.slice ha e.hashes.length hc)).toArray, .bool t, .bool t] w (fun v w' => v = .bool true ∧ Up w w') := by
  refine enter (n := 24) Hvaa.func13 rfl rfl (Nat.le_of_ble_eq_true rfl) ?_
  have U := Up.refl w
  have G : Go (No) w H w H := Go.refl hF
  have hL0 : Le H H := Le.refl H
  refine c_seq (fun K1 hK1 => ?_)
  exact (by
    refine c_region ?_
    refine l_eff (e_boxV (et (gS rfl g0) rfl)) (fun v2 w2 h2 => ?_)
    obtain ⟨b2, rfl, n2⟩ := h2
    have f2 : w.heap.size ≤ b2 := Nat.le_trans U.size n2.fresh
    have nb2 := hF.nb n2.fresh
    replace G := G.tr (Go.ofUp hF n2.up)
    replace hF := hF.up n2.up
    replace U := U.tr n2.up
    have k2 := n2.blk
    replace k2 : Blk w2 b2 (envC e (.slice ha e.hashes.length hc)).toArray := k2
    refine l_step y_assignC ?_
    refine l_nil ?_
    refine hK1 _ _ ?_
    refine fg4 3 2 0 5 (gS rfl (gS rfl (gS rfl (gS rfl (gS rfl g0))))) (gS rfl (gS rfl (gS rfl (gS rfl g0)))) (gS rfl (gS rfl g0)) (gS rfl g0) (fun g => ?_)
    refine c_seq (fun K3 hK3 => ?_)
    exact (by
      refine c_region ?_
      refine l_step (y_moveV (et (gS rfl g0) rfl)) ?_
      refine l_eff (e_callV cal_30 (aC (et g0 rfl) aN) (obs_WorldOK hF (hW.mono hL0) hlm)) (fun v4 w4 h4 => ?_)
      obtain ⟨t9, rfl, ht9, u4⟩ := h4
      replace G := G.tr (Go.ofUp hF u4)
      replace hF := hF.up u4
      replace k2 := k2.up u4
      replace U := U.tr u4
      refine l_step (y_moveV (et g0 rfl)) ?_
      refine gsplitL (i := 12) g0 (fun q5 => ?_) (fun q5 => ?_)
      · skip
        have e1 : WOk l := ht9.1 q5
        have h8 : t = decide (e.hashes.length ≤ 4) := by
          rw [Bool.eq_iff_iff, ht, decide_eq_true_iff]
          exact ⟨fun h => h.2, fun h => ⟨e1, h⟩⟩
        refine l_gstep (j := 2) (t := 12) (by exact rfl) (by exact rfl) (et g0 rfl) (by decide) (y_loadB agg_31 sz_31 (et (gS rfl (gS rfl (gS rfl (gS rfl g0)))) rfl) (by rw [List.size_toArray, envC_len]) (at1B k2)) ?_
        refine l_geff (j := 2) (t := 12) (by exact rfl) (by exact rfl) (et (gS rfl g0) rfl) rfl (e_callV cal_27 (aC (et g0 rfl) aN) (obs_envOK _ _ _ _ _ (envC_h _ _))) (fun v6 w6 h6 => ?_)
        obtain ⟨rfl, u6⟩ := h6
        replace G := G.tr (Go.ofUp hF u6)
        replace hF := hF.up u6
        replace k2 := k2.up u6
        replace U := U.tr u6
        refine l_step (y_pickT (et (gS rfl (gS rfl g0)) rfl) (et g0 rfl)) ?_
        refine l_step (y_assignV (et g0 rfl)) ?_
        refine l_nil ?_
        refine hK3 _ _ ?_
        refine fg3 3 2 9 (gS rfl (gS rfl (gS rfl (gS rfl (gS rfl (gS rfl (gS rfl (gS rfl (gS rfl (gS rfl (gS rfl g0))))))))))) (gS rfl (gS rfl (gS rfl (gS rfl (gS rfl (gS rfl (gS rfl (gS rfl (gS rfl (gS rfl g0)))))))))) g0 (fun g => ?_)
        refine c_seq (fun K7 hK7 => ?_)
        exact (by
          refine c_region ?_
          refine l_step (y_moveV (et (gS rfl g0) rfl)) ?_
          refine l_step (y_moveV (et (gS rfl g0) rfl)) ?_
          refine l_step (y_eqlB Hvaa.underlying4 (et (gS rfl g0) rfl) (et g0 rfl)) ?_
          refine l_step (y_moveV (et g0 rfl)) ?_
          refine gsplitL (i := 19) g0 (fun q8 => ?_) (fun q8 => ?_)
          · skip
            refine l_gstep (j := 3) (t := 19) (by exact rfl) (by exact rfl) (et g0 rfl) (by decide) (y_moveV (et (gS rfl (gS rfl (gS rfl (gS rfl (gS rfl (gS rfl (gS rfl g0))))))) rfl)) ?_
            refine l_gstep (j := 3) (t := 19) (by exact rfl) (by exact rfl) (et (gS rfl g0) rfl) (by decide) (y_moveV (et (gS rfl (gS rfl (gS rfl (gS rfl (gS rfl (gS rfl g0)))))) rfl)) ?_
            refine l_gstep (j := 3) (t := 19) (by exact rfl) (by exact rfl) (et (gS rfl (gS rfl g0)) rfl) (by decide) (y_eqlB Hvaa.underlying4 (et (gS rfl g0) rfl) (et g0 rfl)) ?_
            refine l_step (y_pickT (et (gS rfl (gS rfl (gS rfl g0))) rfl) (et g0 rfl)) ?_
            refine l_step (y_assignV (et g0 rfl)) ?_
            refine l_nil ?_
            refine hK7 _ _ ?_
            refine fg1 8 g0 (fun g => ?_)
            refine c_ret ?_
            repeat with_reducible refine then_ret ?_
            refine ret1 rfl (res_tmp (et g0 rfl)) ?_
            exact ⟨congrArg Value.bool (by rw [h8]; simp), U⟩
          · skip
            rw [h8] at q8; simp at q8)
      · skip
        have e1 : ¬ WOk l := fun h9 => by rw [ht9.2 h9] at q5; cases q5
        have h8 : t = false := by
          cases t with
          | false => rfl
          | true => exact absurd (ht.1 rfl).1 e1
        refine l_gskip (j := 2) (t := 12) (by exact rfl) (by exact rfl) (et g0 rfl) (by decide) (by decide) ?_
        refine l_gskip (j := 2) (t := 12) (by exact rfl) (by exact rfl) (et (gS rfl g0) rfl) (by decide) (by decide) ?_
        refine l_step (y_pickF (et (gS rfl (gS rfl g0)) rfl) rfl) ?_
        refine l_step (y_assignV (et g0 rfl)) ?_
        refine l_nil ?_
        refine hK3 _ _ ?_
        refine fg3 3 2 9 (gS rfl (gS rfl (gS rfl (gS rfl (gS rfl (gS rfl (gS rfl (gS rfl (gS rfl (gS rfl (gS rfl g0))))))))))) (gS rfl (gS rfl (gS rfl (gS rfl (gS rfl (gS rfl (gS rfl (gS rfl (gS rfl (gS rfl g0)))))))))) g0 (fun g => ?_)
        refine c_seq (fun K9 hK9 => ?_)
        exact (by
          refine c_region ?_
          refine l_step (y_moveV (et (gS rfl g0) rfl)) ?_
          refine l_step (y_moveV (et (gS rfl g0) rfl)) ?_
          refine l_step (y_eqlB Hvaa.underlying4 (et (gS rfl g0) rfl) (et g0 rfl)) ?_
          refine l_step (y_moveV (et g0 rfl)) ?_
          refine gsplitL (i := 19) g0 (fun q10 => ?_) (fun q10 => ?_)
          · skip
            refine l_gstep (j := 3) (t := 19) (by exact rfl) (by exact rfl) (et g0 rfl) (by decide) (y_moveV (et (gS rfl (gS rfl (gS rfl (gS rfl (gS rfl (gS rfl (gS rfl g0))))))) rfl)) ?_
            refine l_gstep (j := 3) (t := 19) (by exact rfl) (by exact rfl) (et (gS rfl g0) rfl) (by decide) (y_moveV (et (gS rfl (gS rfl (gS rfl (gS rfl (gS rfl (gS rfl g0)))))) rfl)) ?_
            refine l_gstep (j := 3) (t := 19) (by exact rfl) (by exact rfl) (et (gS rfl (gS rfl g0)) rfl) (by decide) (y_eqlB Hvaa.underlying4 (et (gS rfl g0) rfl) (et g0 rfl)) ?_
            refine l_step (y_pickT (et (gS rfl (gS rfl (gS rfl g0))) rfl) (et g0 rfl)) ?_
            refine l_step (y_assignV (et g0 rfl)) ?_
            refine l_nil ?_
            refine hK9 _ _ ?_
            refine fg1 8 g0 (fun g => ?_)
            refine c_ret ?_
            repeat with_reducible refine then_ret ?_
            refine ret1 rfl (res_tmp (et g0 rfl)) ?_
            exact ⟨congrArg Value.bool (by rw [h8]; simp), U⟩
          · skip
            rw [h8] at q10; simp at q10)))
end Go.Proofs.YgvaawGreat
