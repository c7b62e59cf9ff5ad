import Derived.Test.YgvaawGreatY50
import Derived.Test.YgvaawGreatP9
set_option maxRecDepth 100000
set_option maxHeartbeats 4000000
set_option linter.unusedSimpArgs false
set_option linter.unusedVariables false
namespace Go.Proofs.YgvaawGreat
open Go
/-- the specification's chain between transactions -/
structure YI (w : World) (H : Store) (bs : Nat) (s : YSt) : Prop where
  fz : Fz w H
  nb : ¬ H.has bs
  ex : ∃ cs, Blk w bs cs ∧ SC H cs s (.slice none 0 0) ∧ cs[4]? = some (.slice none 0 0)
theorem YI.go {M : Nat → Prop} {w w' : World} {H H' : Store} {bs : Nat} {s : YSt} (h : YI w H bs s) (g : Go M w H w' H') (hM : ¬ M bs) : YI w' H' bs s := by
  obtain ⟨cs, h1, h2, h3⟩ := h.ex
  exact ⟨g.fz, fun h9 => (g.new bs h9).elim h.nb (fun h8 => by have := h1.lt; omega), cs, h1.ch g.ch hM, h2.mono g.le, h3⟩
theorem YI.ch {M : Nat → Prop} {w w' : World} {H : Store} {bs : Nat} {s : YSt} (h : YI w H bs s) (u : Ch M w w') (hM : ∀ b, M b → b ≠ bs ∧ ¬ H.has b) : YI w' H bs s := by
  obtain ⟨cs, h1, h2, h3⟩ := h.ex
  exact ⟨h.fz.ch u (fun b hb hm => (hM b hm).2 hb), h.nb, cs, h1.ch u (fun h9 => (hM bs h9).1 rfl), h2, h3⟩
structure YQ (w0 : World) (H0 : Store) (w : World) (H : Store) (bs : Nat) (s : YSt) : Prop where
  go : Go (fun b => b = bs) w0 H0 w H
  yi : YI w H bs s
theorem YQ.ch {M : Nat → Prop} {w0 w w' : World} {H0 H : Store} {bs : Nat} {s : YSt} (h : YQ w0 H0 w H bs s) (u : Ch M w w') (hM : ∀ b, M b → b ≠ bs ∧ ¬ H.has b ∧ w0.heap.size ≤ b) : YQ w0 H0 w' H bs s := by
  have h1 := h.yi.ch u (fun b hb => ⟨(hM b hb).1, (hM b hb).2.1⟩)
  exact ⟨h.go.step (h.go.ch.trans u (fun b hb => .inr (hM b hb).2.2)) h1.fz, h1⟩
theorem YQ.up {w0 w w' : World} {H0 H : Store} {bs : Nat} {s : YSt} (h : YQ w0 H0 w H bs s) (u : Up w w') : YQ w0 H0 w' H bs s := h.ch u (fun _ h => h.elim)
theorem YQ.refl {w : World} {H : Store} {bs : Nat} {s : YSt} (h : YI w H bs s) : YQ w H w H bs s := ⟨Go.refl h.fz, h⟩
theorem YQ.lt {w0 w : World} {H0 H : Store} {bs : Nat} {s : YSt} (h : YQ w0 H0 w H bs s) : bs < w.heap.size := by
  obtain ⟨cs, h1, _⟩ := h.yi.ex
  exact h1.lt
/-- what a finished transaction leaves behind -/
def ApY (w : World) (H : Store) (w' : World) (bs : Nat) (z : YSt) (v : Value) : Prop := ∃ H' oa la oc lc, v = .agg (rcC 0 z.status (useN z) (.slice oa z.ret.length oc) (.slice la z.now.logs.length lc) (if z.status = 0 then z.made else 0)).toArray ∧ BV H' (.slice oa z.ret.length oc) z.ret ∧ LV P_log 22 H' (.slice la z.now.logs.length lc) z.now.logs ∧ YQ w H w' H' bs (finY z)
theorem Fz.ch9 {w : World} {H : Store} (h : Fz w H) : Fz w H := h
theorem y_begin0 {w : World} {H : Store} {bs : Nat} {s : YSt} (hY : YI w H bs s) {txc : List Value} {T : YTx} (ht : TC H txc.toArray T) (htl : txc.length = 174) (hi : II s) (hb : IBd s) (hv0 : verdN s T = 0) : Ret 19 [.pointer (some ⟨bs, 0, none⟩), .agg txc.toArray] w (fun v w' => v = .int .u8 (0 : Nat) ∧ YR w H w' bs (begY s T) ∧ Ch (fun b => b = bs) w w') := by
  obtain ⟨cs, kS, hs, hv4⟩ := hY.ex
  have hen := beg_en hi (vd_of hv0) hb
  have hst := hb.st
  have hla := hb.lb.accts
  cases hc : T.create
  · refine (yp_beginT hY.fz bs cs s _ kS hs ht htl hY.nb hv4 hi (by omega) (by omega) hv0 hc (by unfold bTgt; rw [if_neg (by rw [hc]; decide)]) hen (fun a => Nat.lt_of_le_of_lt (bw_code hb a) (by decide))).mono (fun v w' h => ?_)
    obtain ⟨h1, H', bf', g, hy⟩ := h
    exact ⟨h1, ⟨H', bf', g, hy⟩, g.ch⟩
  · refine (yp_beginC hY.fz bs cs s _ kS hs ht htl hY.nb hv4 hi (by omega) (by omega) hv0 hc rfl (crt_lt _ _) (by unfold bTgt; rw [if_pos hc]; rfl) hen (fun a => Nat.lt_of_le_of_lt (bw_code hb a) (by decide))).mono (fun v w' h => ?_)
    obtain ⟨h1, H', bf', g, hy⟩ := h
    exact ⟨h1, ⟨H', bf', g, hy⟩, g.ch⟩
theorem y_finA {w0 w : World} {H0 : Store} {bs : Nat} {z : YSt} (hQ : YR w0 H0 w bs z) (hie : IE z) (hl : WLB z.now) : Ret 21 [.pointer (some ⟨bs, 0, none⟩)] w (fun v w' => ApY w0 H0 w' bs z v ∧ Ch (fun b => b = bs) w w') := by
  obtain ⟨H, bf, g, hy⟩ := hQ.ex
  obtain ⟨cs, vf, vl, fs, ms, ol, h1, h2, h3, h4, h5, h6, h7, h8⟩ := hy.ex
  refine (yp_finish hy.fz bs cs z vf h1 h2 hie.fr h8.s.1 (by obtain ⟨a, c, e⟩ := h3.sl; rw [e]; rfl) h6 h7 (fun b e => ⟨(h8.l b e).2.2.2, (h8.l b e).1⟩) (FinH.of hie hl)).mono (fun v w' h => ?_)
  obtain ⟨H', cs', qa, qc, lq, lr, e1, e2, e3, g', k', s', c'⟩ := h
  refine ⟨⟨H', qa, lq, qc, lr, e1, e2, e3, g.trans g' (fun b hb => .inl hb), g'.fz, fun h9 => ?_, cs', k', s', c'⟩, g'.ch⟩
  rcases g'.new bs h9 with h | h
  · exact h8.s.1 h
  · have := h1.lt; omega
theorem y_beginV {w : World} {H : Store} {bs : Nat} {s : YSt} (hY : YI w H bs s) {txc : List Value} {T : YTx} (ht : TC H txc.toArray T) (htl : txc.length = 174) (hv0 : verdN s T ≠ 0) : Ret 19 [.pointer (some ⟨bs, 0, none⟩), .agg txc.toArray] w (fun v w' => v = .int .u8 (verdN s T : Nat) ∧ ∃ H', YQ w H w' H' bs s) := by
  obtain ⟨cs, kS, hs, hv4⟩ := hY.ex
  refine (yp_beginV hY.fz bs cs s _ kS hs ht htl hv0).mono (fun v w' h => ?_)
  obtain ⟨h1, H', g⟩ := h
  exact ⟨h1, H', ⟨g.ch.mono (fun _ _ h => h.elim), g.fz, g.le, g.new⟩, hY.go g (fun h => h)⟩
theorem YR.base {w0 w1 w : World} {H0 H1 : Store} {bs : Nat} {s : YSt} (g : Go (fun b => b = bs) w0 H0 w1 H1) (h : YR w1 H1 w bs s) : YR w0 H0 w bs s := by
  obtain ⟨H, bf, g1, hy⟩ := h.ex
  exact ⟨H, bf, g.trans g1 (fun _ h => .inl h), hy.wk (fun b hb => hb.elim .inl (fun h8 => .inr (Nat.le_trans g.ch.size h8)))⟩
theorem YR.chc {w0 w : World} {H0 : Store} {bs : Nat} {s : YSt} (h : YR w0 H0 w bs s) : Ch (fun b => b = bs) w0 w := by
  obtain ⟨H, bf, g, hy⟩ := h.ex
  exact g.ch
theorem y_applyV {w : World} {H : Store} {bs : Nat} {s : YSt} (hX : YQ w H w H bs s) {txc : List Value} {T : YTx} (ht : TC H txc.toArray T) (htl : txc.length = 174) (hv0 : verdN s T ≠ 0) :
    Ret 8 [.pointer (some ⟨bs, 0, none⟩), .agg txc.toArray] w (fun v w' => v = .agg (rcC (verdN s T) 0 0 (.slice none 0 0) (.slice none 0 0) 0).toArray ∧ ∃ H', YQ w H w' H' bs s) := by
  have hfz := hX.yi.fz
  have hltS := hX.lt
  refine enter (n := 17) Hvaa.func8 rfl rfl (Nat.le_of_ble_eq_true rfl) ?_
  have U : Ch (fun _ => True) w w := Ch.refl _ w
  refine c_seq (fun K1 hK1 => ?_)
  exact (by
    refine c_region ?_
    have hfza := hX.yi.fz
    refine l_eff (e_boxV (et (gS rfl g0) rfl)) (fun v2 w2 h2 => ?_)
    obtain ⟨b2, rfl, n2⟩ := h2
    have f2 : w.heap.size ≤ b2 := Nat.le_trans U.size n2.fresh
    replace hX := hX.up n2.up
    replace U := U.tr n2.up
    have k2 := n2.blk
    replace k2 : Blk w2 b2 txc.toArray := k2
    have nh2 : ¬ Store.has _ b2 := fun hh => by have h9 := hfza.lt hh; have h8 := n2.fresh; omega
    have hfzb := hX.yi.fz
    refine l_eff (e_alloc zr_44) (fun v3 w3 h3 => ?_)
    obtain ⟨b3, rfl, n3⟩ := h3
    have d2_3 : b2 < b3 := Nat.lt_of_lt_of_le k2.lt n3.fresh
    have f3 : w.heap.size ≤ b3 := Nat.le_trans U.size n3.fresh
    replace k2 := k2.up n3.up
    replace hX := hX.up n3.up
    replace U := U.tr n3.up
    have k3 := n3.blk
    obtain ⟨zs3, hz3, k3⟩ : ∃ cs : Array Value, cs.size = 25 ∧ Blk w3 b3 cs := ⟨_, rfl, k3⟩
    have nh3 : ¬ Store.has _ b3 := fun hh => by have h9 := hfzb.lt hh; have h8 := n3.fresh; omega
    refine l_nil ?_
    refine hK1 _ _ ?_
    refine fg3 0 3 4 (gS rfl (gS rfl g0)) (gS rfl g0) g0 (fun g => ?_)
    refine c_seq (fun K4 hK4 => ?_)
    refine c_seq (fun K5 hK5 => ?_)
    exact (by
      refine c_region ?_
      refine l_step (y_moveV (et (gS rfl (gS rfl g0)) rfl)) ?_
      refine l_step (y_loadB agg_41 sz_41 (et (gS rfl (gS rfl g0)) rfl) (by rw [List.size_toArray]; exact htl) (at1B k2)) ?_
      refine l_eff (e_callV cal_19 (aC (et (gS rfl g0) rfl) (aC (et g0 rfl) aN)) (y_beginV hX.yi ht htl hv0)) (fun v6 w6 h6 => ?_)
      obtain ⟨rfl, H6, y6⟩ := h6
      have nh2 := y6.go.nb nh2 k2.lt
      have nh3 := y6.go.nb nh3 k3.lt
      replace k2 := k2.ch y6.go.ch (by intro hm; (have e0 := hm); omega)
      replace k3 := k3.ch y6.go.ch (by intro hm; (have e0 := hm); omega)
      replace hX := YQ.mk (hX.go.trans y6.go (fun _ h => .inl h)) y6.yi
      replace U := U.cc y6.go.ch (by intro b hb; exact .inl trivial)
      refine l_step (y_assignV (et g0 rfl)) ?_
      refine l_nil ?_
      refine hK5 _ _ ?_
      refine fg3 0 4 5 (gS rfl (gS rfl (gS rfl (gS rfl (gS rfl (gS rfl g0)))))) (gS rfl (gS rfl (gS rfl (gS rfl g0)))) g0 (fun g => ?_)
      refine c_seq (fun K7 hK7 => ?_)
      exact (by
        refine c_region ?_
        refine l_step (y_moveV (et g0 rfl)) ?_
        refine l_step (y_neq (et g0 rfl) rfl) ?_
        refine l_nil ?_
        refine hK7 _ _ ?_
        refine fg4 0 4 5 10 (gS rfl (gS rfl (gS rfl (gS rfl g0)))) (gS rfl (gS rfl (gS rfl g0))) (gS rfl (gS rfl g0)) g0 (fun g => ?_)
        refine c_true (et g0 rfl) (by (exact decide_eq_true (by omega))) ?_
        refine c_seq (fun K9 hK9 => ?_)
        exact (by
          refine c_region ?_
          refine l_step (y_moveV (et (gS rfl g0) rfl)) ?_
          refine l_step (y_bld (bC (et g0 rfl) bN) (bld44_0 _)) ?_
          refine l_effN (e_store sz_44 (et (gS rfl (gS rfl (gS rfl (gS rfl g0)))) rfl) (cellsV (et g0 rfl) rfl) rcC_len (by exact rc_one rfl rfl) k3 (by (rw [hz3]; exact Nat.le_refl _))) (fun v10 w10 h10 => ?_)
          obtain ⟨rfl, x10⟩ := h10
          replace k2 := k2.ch x10.ch (by omega)
          replace hX := hX.ch x10.ch (by first | omega | (intro b hb; first | (subst hb; first | exact ⟨by omega, fun hh => by have := hfz.lt hh; omega, by omega⟩ | exact ⟨by omega, by assumption, by omega⟩) | (rcases hb with hb | hb <;> (subst hb; first | exact ⟨by omega, fun hh => by have := hfz.lt hh; omega, by omega⟩ | exact ⟨by omega, by assumption, by omega⟩))))
          replace k3 := x10.blk.full (by rw [rcC_len, hz3])
          replace U := U.st x10 (.inr f3)
          refine l_nil ?_
          refine hK9 _ _ ?_
          refine fg1 4 (gS rfl (gS rfl (gS rfl (gS rfl g0)))) (fun g => ?_)
          refine c_ret ?_
          repeat with_reducible refine then_ret ?_
          refine ret1 rfl (res_blk agg_44 sz_44 (et g0 rfl) (by rw [List.size_toArray, rcC_len]) k3) ?_
          exact ⟨rfl, _, hX⟩))))
theorem y_apply0 {w : World} {H : Store} {bs : Nat} {s : YSt} (hX : YQ w H w H bs s) {txc : List Value} {T : YTx} (ht : TC H txc.toArray T) (htl : txc.length = 174) (hi : II s) (hb : IBd s) (hv0 : verdN s T = 0) {m0 : Nat} {z : YSt} (hR : Rn m0 (begY s T) z) :
    Ret 8 [.pointer (some ⟨bs, 0, none⟩), .agg txc.toArray] w (fun v w' => ApY w H w' bs z v) := by
  have hfz := hX.yi.fz
  have hltS := hX.lt
  refine enter (n := 17) Hvaa.func8 rfl rfl (Nat.le_of_ble_eq_true rfl) ?_
  have U : Ch (fun _ => True) w w := Ch.refl _ w
  refine c_seq (fun K1 hK1 => ?_)
  exact (by
    refine c_region ?_
    have hfza := hX.yi.fz
    refine l_eff (e_boxV (et (gS rfl g0) rfl)) (fun v2 w2 h2 => ?_)
    obtain ⟨b2, rfl, n2⟩ := h2
    have f2 : w.heap.size ≤ b2 := Nat.le_trans U.size n2.fresh
    replace hX := hX.up n2.up
    replace U := U.tr n2.up
    have k2 := n2.blk
    replace k2 : Blk w2 b2 txc.toArray := k2
    have nh2 : ¬ Store.has _ b2 := fun hh => by have h9 := hfza.lt hh; have h8 := n2.fresh; omega
    have hfzb := hX.yi.fz
    refine l_eff (e_alloc zr_44) (fun v3 w3 h3 => ?_)
    obtain ⟨b3, rfl, n3⟩ := h3
    have d2_3 : b2 < b3 := Nat.lt_of_lt_of_le k2.lt n3.fresh
    have f3 : w.heap.size ≤ b3 := Nat.le_trans U.size n3.fresh
    replace k2 := k2.up n3.up
    replace hX := hX.up n3.up
    replace U := U.tr n3.up
    have k3 := n3.blk
    obtain ⟨zs3, hz3, k3⟩ : ∃ cs : Array Value, cs.size = 25 ∧ Blk w3 b3 cs := ⟨_, rfl, k3⟩
    have nh3 : ¬ Store.has _ b3 := fun hh => by have h9 := hfzb.lt hh; have h8 := n3.fresh; omega
    refine l_nil ?_
    refine hK1 _ _ ?_
    refine fg3 0 3 4 (gS rfl (gS rfl g0)) (gS rfl g0) g0 (fun g => ?_)
    refine c_seq (fun K4 hK4 => ?_)
    refine c_seq (fun K5 hK5 => ?_)
    exact (by
      refine c_region ?_
      refine l_step (y_moveV (et (gS rfl (gS rfl g0)) rfl)) ?_
      refine l_step (y_loadB agg_41 sz_41 (et (gS rfl (gS rfl g0)) rfl) (by rw [List.size_toArray]; exact htl) (at1B k2)) ?_
      have hXa := hX
      have hlt2 := k2.lt
      have hlt3 := k3.lt
      refine l_eff (e_callV cal_19 (aC (et (gS rfl g0) rfl) (aC (et g0 rfl) aN)) (y_begin0 hX.yi ht htl hi hb hv0)) (fun v6 w6 h6 => ?_)
      obtain ⟨rfl, hO6, hC6⟩ := h6
      replace k2 := k2.ch hC6 (by intro hm; (have e0 := hm); omega)
      replace k3 := k3.ch hC6 (by intro hm; (have e0 := hm); omega)
      replace hX := hO6
      replace U := U.cc hC6 (by intro b hb; exact .inl trivial)
      refine l_step (y_assignV (et g0 rfl)) ?_
      refine l_nil ?_
      refine hK5 _ _ ?_
      refine fg3 0 4 5 (gS rfl (gS rfl (gS rfl (gS rfl (gS rfl (gS rfl g0)))))) (gS rfl (gS rfl (gS rfl (gS rfl g0)))) g0 (fun g => ?_)
      refine c_seq (fun K7 hK7 => ?_)
      exact (by
        refine c_region ?_
        refine l_step (y_moveV (et g0 rfl)) ?_
        refine l_step (y_neq (et g0 rfl) rfl) ?_
        refine l_nil ?_
        refine hK7 _ _ ?_
        refine fg4 0 4 5 10 (gS rfl (gS rfl (gS rfl (gS rfl g0)))) (gS rfl (gS rfl (gS rfl g0))) (gS rfl (gS rfl g0)) g0 (fun g => ?_)
        refine c_false (et g0 rfl) (by rfl) ?_
        refine c_skip ?_
        refine hK4 _ _ ?_
        refine fg2 0 4 (gS rfl (gS rfl (gS rfl g0))) (gS rfl (gS rfl g0)) (fun g => ?_)
        refine c_seq (fun K9 hK9 => ?_)
        refine c_block (fun Q10 hQ10 => ?_)
        refine fg2 0 4 (gS rfl g0) g0 (fun g => ?_)
        refine c_loop (fun k_ s_ W11 => ∃ (g : Nat → Value) (s1 : YSt) (n1 : Nat), s_ = (upd (upd g 0 (.pointer (some ⟨bs, 0, none⟩))) 4 (.pointer (some ⟨b3, 0, none⟩))) ∧ n1 = k_ ∧ (YR w3 H W11 bs s1) ∧ (Rn n1 s1 z) ∧ (Blk W11 b3 (zs3))) ((m0)) ?_ ?_
        · exact ⟨g, (begY s T), m0, rfl, rfl, hX, hR, k3⟩
        · skip
          intro k_ s_ W11 hI K11 hK11
          clear k3
          obtain ⟨g, s1, n1, rfl, rfl, hX, hRn, k3⟩ := hI
          have U : Ch (fun _ => True) w W11 := ((hXa.go.ch.trans hX.chc (fun _ h => .inl h))).mono (fun _ _ _ => trivial)
          refine c_seq (fun K12 hK12 => ?_)
          refine c_seq (fun K13 hK13 => ?_)
          exact (by
            refine c_region ?_
            refine l_step (y_moveV (et (gS rfl g0) rfl)) ?_
            refine l_eff (e_callV cal_20 (aC (et g0 rfl) aN) (y_stepA hX hRn)) (fun v14 w14 h14 => ?_)
            obtain ⟨bb9, s2, rfl, hO14, hC14, hTt, hFl⟩ := h14
            replace k3 := k3.ch hC14 (by intro hm; (have e0 := hm); omega)
            replace hX := hO14
            replace U := U.cc hC14 (by intro b hb; exact .inl trivial)
            refine l_nil ?_
            refine hK13 _ _ ?_
            refine fg3 0 4 14 (gS rfl (gS rfl (gS rfl g0))) (gS rfl (gS rfl g0)) g0 (fun g => ?_)
            refine c_cond (et g0 rfl) (fun cB2 => ?_) (fun cB2 => ?_)
            · skip
              
              obtain ⟨m2, he2, hr2⟩ := hTt cB2
              refine c_skip ?_
              refine hK12 _ _ ?_
              refine fg2 0 4 (gS rfl (gS rfl g0)) (gS rfl g0) (fun g => ?_)
              refine c_block (fun Q16 hQ16 => ?_)
              refine c_skip ?_
              refine hQ16 _ _ _ (in_normal ?_)
              refine fK2 0 4 (gS rfl g0) g0 (fun g => ?_)
              exact hK11 ((m2)) _ _ (by omega) ⟨g, s2, m2, rfl, rfl, hX, hr2, k3⟩
            · skip
              
              obtain rfl := hFl cB2
              refine c_exit ?_
              refine hQ10 _ _ _ (in_exit ?_)
              refine hK9 _ _ ?_
              refine fg2 0 4 (gS rfl (gS rfl g0)) (gS rfl g0) (fun g => ?_)
              refine c_seq (fun K17 hK17 => ?_)
              exact (by
                refine c_region ?_
                refine l_step (y_moveV (et (gS rfl g0) rfl)) ?_
                refine l_eff (e_callV cal_21 (aC (et g0 rfl) aN) (y_finA hX hR.ie hR.lb)) (fun v18 w18 h18 => ?_)
                obtain ⟨⟨H18, oa9, la9, oc9, lc9, rfl, bo9, bl9, y18⟩, hC18⟩ := h18
                have nh3 := y18.go.nb nh3 hlt3
                replace k3 := k3.ch hC18 (by intro hm; (have e0 := hm); omega)
                replace hX := YQ.mk (hXa.go.trans y18.go (fun _ h => .inl h)) y18.yi
                replace U := U.cc hC18 (by intro b hb; exact .inl trivial)
                refine l_effN (e_store sz_44 (et (gS rfl (gS rfl g0)) rfl) (cellsV (et g0 rfl) rfl) rcC_len (by exact rc_one rfl rfl) k3 (by (rw [hz3]; exact Nat.le_refl _))) (fun v19 w19 h19 => ?_)
                obtain ⟨rfl, x19⟩ := h19
                replace hX := hX.ch x19.ch (by first | omega | (intro b hb; first | (subst hb; first | exact ⟨by omega, fun hh => by have := hfz.lt hh; omega, by omega⟩ | exact ⟨by omega, by assumption, by omega⟩) | (rcases hb with hb | hb <;> (subst hb; first | exact ⟨by omega, fun hh => by have := hfz.lt hh; omega, by omega⟩ | exact ⟨by omega, by assumption, by omega⟩))))
                replace k3 := x19.blk.full (by rw [rcC_len, hz3])
                replace U := U.st x19 (.inr f3)
                refine l_nil ?_
                refine hK17 _ _ ?_
                refine fg1 4 (gS rfl (gS rfl g0)) (fun g => ?_)
                refine c_ret ?_
                repeat with_reducible refine then_ret ?_
                refine ret1 rfl (res_blk agg_44 sz_44 (et g0 rfl) (by rw [List.size_toArray, rcC_len]) k3) ?_
                exact ⟨_, oa9, la9, oc9, lc9, rfl, bo9, bl9, hX⟩)))))
end Go.Proofs.YgvaawGreat
