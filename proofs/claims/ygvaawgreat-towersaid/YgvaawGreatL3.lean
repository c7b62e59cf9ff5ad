import Derived.Test.YgvaawGreatL2
import Derived.Test.YgvaawGreatY53
set_option maxRecDepth 100000
set_option maxHeartbeats 4000000
set_option linter.unusedSimpArgs false
set_option linter.unusedVariables false
namespace Go.Proofs.YgvaawGreat
open Go
theorem e_newT {w : World} {H : Store} (hF : Fz w H) {l : List YAcct} {wa ha : Option Addr} {wc hc : Nat} {e : YEnv} (hW : LV P_oacct 55 H (.slice wa l.length wc) l) (hlm : l.length < 9223372036854775808) (heb : EB e) (hH : LV P_word 32 H (.slice ha e.hashes.length hc) e.hashes) : Ret 11 [.slice wa l.length wc, .agg (envC e (.slice ha e.hashes.length hc)).toArray] w (fun v w' => ∃ (t : Bool) (po : Option Addr) (H' : Store), v = .tuple #[.pointer po, .bool t] ∧ (t = true ↔ WOk l ∧ e.hashes.length ≤ 4) ∧ Go No w H w' H' ∧ (t = false → po = none) ∧ (t = true → ∃ bc col', po = some ⟨bc, 0, none⟩ ∧ w.heap.size ≤ bc ∧ XI w' H' col' bc (iniY l e) ∧ ∀ b, b < w.heap.size → col' b = 0)) :=
  (e_new hF hW hlm heb hH).mono (fun v w' ⟨t, h1, h2, h3⟩ => by
    cases t with
    | false => exact ⟨false, none, H, (h2 rfl).1, h1, Go.ofUp hF (h2 rfl).2, fun _ => rfl, (fun h => by cases h)⟩
    | true =>
      obtain ⟨bc, H', col', g1, g2, g3, g4, g5⟩ := h3 rfl
      exact ⟨true, _, H', g1, h1, g2, (fun h => by cases h), fun _ => ⟨bc, col', rfl, g3, g4, g5⟩⟩)
theorem y_newT {w : World} {H : Store} (hF : Fz w H) {l : List YAcct} {wa ha : Option Addr} {wc hc : Nat} {e : YEnv} (hW : LV P_oacct 55 H (.slice wa l.length wc) l) (hlm : l.length < 9223372036854775808) (heb : EB e) (hH : LV P_word 32 H (.slice ha e.hashes.length hc) e.hashes) : Ret 12 [.slice wa l.length wc, .agg (envC e (.slice ha e.hashes.length hc)).toArray] w (fun v w' => ∃ (t : Bool) (po : Option Addr) (H' : Store), v = .tuple #[.pointer po, .bool t] ∧ (t = true ↔ WOk l ∧ e.hashes.length ≤ 4) ∧ Go No w H w' H' ∧ (t = false → po = none) ∧ (t = true → ∃ bs, po = some ⟨bs, 0, none⟩ ∧ w.heap.size ≤ bs ∧ YI w' H' bs (iniY l e))) :=
  (yp_new hF hW hlm heb hH).mono (fun v w' ⟨t, h1, h2, h3⟩ => by
    cases t with
    | false => exact ⟨false, none, H, (h2 rfl).1, h1, Go.ofUp hF (h2 rfl).2, fun _ => rfl, (fun h => by cases h)⟩
    | true =>
      obtain ⟨bs, H', g1, g2, g3, g4⟩ := h3 rfl
      exact ⟨true, _, H', g1, h1, g2, (fun h => by cases h), fun _ => ⟨bs, rfl, g3, g4⟩⟩)
theorem wok_al {l : List YAcct} (h : WOk l) : AlOk l := by
  refine ⟨wok_rise h, fun A hA => ?_, fun A hA => ⟨slr_rise (h.acct A hA).sl, fun x hx => ?_⟩⟩
  · have h1 := (h.acct A hA).ne
    unfold emptyS emptyB
    rw [Bool.eq_false_iff]
    intro h2
    simp only [Bool.and_eq_true, decide_eq_true_eq] at h2
    exact h1 ⟨h2.1.1.1, h2.1.2, .inl h2.1.1.2⟩
  · obtain ⟨i, hi, e⟩ := List.mem_iff_getElem.1 hx
    have := ((h.acct A hA).sl i hi hi).1
    rw [e] at this
    exact this
theorem ini_ii {l : List YAcct} {e : YEnv} (h : WOk l) : II (iniY l e) := ⟨rfl, rfl, wok_al h, rfl, h.sum, Nat.zero_le _⟩
/-- both chains idle at the same state -/
structure Bth (w : World) (H : Store) (col : Nat → Nat) (bc bs : Nat) (s : YSt) : Prop where
  x : XI w H col bc s
  y : YI w H bs s
  i : II s
  c : col bs = 0
theorem YI.blt {w : World} {H : Store} {bs : Nat} {s : YSt} (h : YI w H bs s) : bs < w.heap.size := by
  obtain ⟨cs, h1, _⟩ := h.ex
  exact h1.lt
theorem Bth.go {w w' : World} {H H' : Store} {col : Nat → Nat} {bc bs : Nat} {s : YSt} (h : Bth w H col bc bs s) (g : Go No w H w' H') : Bth w' H' col bc bs s := ⟨h.x.go g (fun _ h => h.elim), h.y.go g (fun h => h), h.i, h.c⟩
theorem law_both {w : World} {H : Store} (hF : Fz w H) {l : List YAcct} {wa ha : Option Addr} {wc hc : Nat} {e : YEnv} (hW : LV P_oacct 55 H (.slice wa l.length wc) l) (hlm : l.length < 9223372036854775808) (heb : EB e) (hH : LV P_word 32 H (.slice ha e.hashes.length hc) e.hashes) :
    Ret 4 [(.slice wa l.length wc), .agg (envC e (.slice ha e.hashes.length hc)).toArray] w (fun v w' => ∃ (t : Bool) (po qo : Option Addr) (H' : Store), v = .tuple #[.pointer po, .pointer qo, .bool true] ∧ Go No w H w' H' ∧ (t = true ↔ WOk l ∧ e.hashes.length ≤ 4) ∧ (t = false → po = none) ∧ (t = true → ∃ bc bs col', po = some ⟨bc, 0, none⟩ ∧ qo = some ⟨bs, 0, none⟩ ∧ w.heap.size ≤ bc ∧ w.heap.size ≤ bs ∧ Bth w' H' col' bc bs (iniY l e) ∧ ∀ b, b < w.heap.size → col' b = 0)) := by
  refine enter (n := 31) Hvaa.func4 rfl rfl (Nat.le_of_ble_eq_true rfl) ?_
  have U := Up.refl w
  have G : Go (No) w H w H := Go.refl hF
  have hL0 : Le H H := Le.refl H
  refine c_seq (fun K1 hK1 => ?_)
  exact (by
    refine c_region ?_
    refine l_eff (e_boxV (et (gS rfl g0) rfl)) (fun v2 w2 h2 => ?_)
    obtain ⟨b2, rfl, n2⟩ := h2
    have f2 : w.heap.size ≤ b2 := Nat.le_trans U.size n2.fresh
    have nb2 := hF.nb n2.fresh
    replace G := G.tr (Go.ofUp hF n2.up)
    replace hF := hF.up n2.up
    replace U := U.tr n2.up
    have k2 := n2.blk
    replace k2 : Blk w2 b2 (envC e (.slice ha e.hashes.length hc)).toArray := k2
    refine l_step y_assignC ?_
    refine l_step y_assignC ?_
    refine l_step y_assignC ?_
    refine l_nil ?_
    refine hK1 _ _ ?_
    refine fg2 0 3 (gS rfl (gS rfl (gS rfl (gS rfl g0)))) (gS rfl (gS rfl (gS rfl g0))) (fun g => ?_)
    refine c_seq (fun K3 hK3 => ?_)
    exact (by
      refine c_region ?_
      refine l_step (y_moveV (et (gS rfl g0) rfl)) ?_
      refine l_step (y_loadB agg_31 sz_31 (et (gS rfl g0) rfl) (by rw [List.size_toArray, envC_len]) (at1B k2)) ?_
      have wq := U.size
      refine l_eff (e_callV cal_11 (aC (et (gS rfl g0) rfl) (aC (et g0 rfl) aN)) (e_newT hF (hW.mono hL0) hlm heb (hH.mono hL0))) (fun v4 w4 h4 => ?_)
      obtain ⟨t1, p1, H4, rfl, ht1, g4, hp1, hx1⟩ := h4
      have hlew4 := g4.le
      replace nb2 := g4.nb nb2 k2.lt
      replace hL0 := hL0.trans hlew4
      replace k2 := k2.up g4.up
      replace U := U.tr g4.up
      replace G := G.tr g4
      replace hF := g4.fz
      have Vx9 : Go No w4 H4 w4 H4 := Go.refl hF
      have uq1 := g4.ch.size
      refine l_step (y_moveV (et g0 rfl)) ?_
      refine l_step (y_ext (et g0 rfl) rfl) ?_
      refine l_step (y_ext (et (gS rfl g0) rfl) rfl) ?_
      refine l_step (y_assignV (et (gS rfl g0) rfl)) ?_
      refine l_step (y_assignV (et (gS rfl g0) rfl)) ?_
      refine l_nil ?_
      refine hK3 _ _ ?_
      refine fg4 0 3 4 7 (gS rfl (gS rfl (gS rfl (gS rfl (gS rfl (gS rfl (gS rfl (gS rfl (gS rfl g0))))))))) (gS rfl (gS rfl (gS rfl (gS rfl (gS rfl (gS rfl (gS rfl (gS rfl g0)))))))) (gS rfl g0) g0 (fun g => ?_)
      refine c_seq (fun K5 hK5 => ?_)
      exact (by
        refine c_region ?_
        refine l_step (y_moveV (et (gS rfl (gS rfl (gS rfl g0))) rfl)) ?_
        refine l_step (y_loadB agg_31 sz_31 (et (gS rfl (gS rfl (gS rfl g0))) rfl) (by rw [List.size_toArray, envC_len]) (at1B k2)) ?_
        refine l_eff (e_callV cal_12 (aC (et (gS rfl g0) rfl) (aC (et g0 rfl) aN)) (y_newT hF (hW.mono hL0) hlm heb (hH.mono hL0))) (fun v6 w6 h6 => ?_)
        obtain ⟨t2, p2, H6, rfl, ht2, g6, hp2, hx2⟩ := h6
        have hlew6 := g6.le
        replace nb2 := g6.nb nb2 k2.lt
        replace hL0 := hL0.trans hlew6
        replace k2 := k2.up g6.up
        replace U := U.tr g6.up
        replace G := G.tr g6
        replace Vx9 := Vx9.tr g6
        replace hF := g6.fz
        have htt : t2 = t1 := by rw [Bool.eq_iff_iff, ht1, ht2]
        subst htt
        have Vy8 : Go No w6 H6 w6 H6 := Go.refl hF
        refine l_step (y_moveV (et g0 rfl)) ?_
        refine l_step (y_ext (et g0 rfl) rfl) ?_
        refine l_step (y_ext (et (gS rfl g0) rfl) rfl) ?_
        refine l_step (y_assignV (et (gS rfl g0) rfl)) ?_
        refine l_step (y_assignV (et (gS rfl g0) rfl)) ?_
        refine l_nil ?_
        refine hK5 _ _ ?_
        refine fg6 0 3 4 7 5 8 (gS rfl (gS rfl (gS rfl (gS rfl (gS rfl (gS rfl (gS rfl (gS rfl (gS rfl (gS rfl (gS rfl g0))))))))))) (gS rfl (gS rfl (gS rfl (gS rfl (gS rfl (gS rfl (gS rfl (gS rfl (gS rfl (gS rfl g0)))))))))) (gS rfl (gS rfl (gS rfl (gS rfl (gS rfl (gS rfl (gS rfl (gS rfl (gS rfl g0))))))))) (gS rfl (gS rfl (gS rfl (gS rfl (gS rfl (gS rfl (gS rfl (gS rfl g0)))))))) (gS rfl g0) g0 (fun g => ?_)
        refine c_seq (fun K7 hK7 => ?_)
        refine c_seq (fun K8 hK8 => ?_)
        exact (by
          refine c_region ?_
          refine l_step (y_moveV (et (gS rfl (gS rfl (gS rfl (gS rfl (gS rfl g0))))) rfl)) ?_
          refine l_step (y_loadB agg_31 sz_31 (et (gS rfl (gS rfl (gS rfl (gS rfl (gS rfl g0))))) rfl) (by rw [List.size_toArray, envC_len]) (at1B k2)) ?_
          refine l_step (y_moveV (et (gS rfl (gS rfl (gS rfl (gS rfl g0)))) rfl)) ?_
          refine l_step (y_moveV (et (gS rfl (gS rfl (gS rfl g0))) rfl)) ?_
          refine l_eff (e_callV cal_13 (aC (et (gS rfl (gS rfl (gS rfl g0))) rfl) (aC (et (gS rfl (gS rfl g0)) rfl) (aC (et (gS rfl g0) rfl) (aC (et g0 rfl) aN)))) (law_newsHold hF (hW.mono hL0) hlm ht2)) (fun v9 w9 h9 => ?_)
          obtain ⟨rfl, u9⟩ := h9
          replace G := G.tr (Go.ofUp hF u9)
          replace Vx9 := Vx9.tr (Go.ofUp hF u9)
          replace Vy8 := Vy8.tr (Go.ofUp hF u9)
          replace hF := hF.up u9
          replace k2 := k2.up u9
          replace U := U.tr u9
          refine l_step (y_not (et g0 rfl)) ?_
          refine l_nil ?_
          refine hK8 _ _ ?_
          refine fg4 4 7 5 26 (gS rfl (gS rfl (gS rfl (gS rfl (gS rfl (gS rfl (gS rfl (gS rfl (gS rfl g0))))))))) (gS rfl (gS rfl (gS rfl (gS rfl (gS rfl (gS rfl (gS rfl (gS rfl g0)))))))) (gS rfl (gS rfl (gS rfl (gS rfl (gS rfl (gS rfl (gS rfl g0))))))) g0 (fun g => ?_)
          refine c_false (et g0 rfl) (by rfl) ?_
          refine c_skip ?_
          refine hK7 _ _ ?_
          refine fg3 4 7 5 (gS rfl (gS rfl (gS rfl g0))) (gS rfl (gS rfl g0)) (gS rfl g0) (fun g => ?_)
          refine c_seq (fun K11 hK11 => ?_)
          refine c_seq (fun K12 hK12 => ?_)
          exact (by
            refine c_region ?_
            refine l_step (y_moveV (et (gS rfl g0) rfl)) ?_
            refine l_step (y_not (et g0 rfl)) ?_
            refine l_nil ?_
            refine hK12 _ _ ?_
            refine fg3 4 5 28 (gS rfl (gS rfl (gS rfl (gS rfl g0)))) (gS rfl (gS rfl g0)) g0 (fun g => ?_)
            refine c_cond (et g0 rfl) (fun cB2 => ?_) (fun cB2 => ?_)
            · skip
              
              have htf : t2 = false := by simpa using cB2
              refine c_seq (fun K14 hK14 => ?_)
              exact (by
                refine c_region ?_
                refine l_step y_assignC ?_
                refine l_step y_assignC ?_
                refine l_step y_assignC ?_
                refine l_nil ?_
                refine hK14 _ _ ?_
                refine fg3 4 5 6 (gS rfl (gS rfl g0)) (gS rfl g0) g0 (fun g => ?_)
                refine c_ret ?_
                repeat with_reducible refine then_ret ?_
                refine ret3 rfl (res_tmp (et (gS rfl (gS rfl g0)) rfl)) (res_tmp (et (gS rfl g0) rfl)) (res_tmp (et g0 rfl)) ?_
                exact ⟨t2, none, none, _, rfl, G, ht1, fun _ => rfl, fun h9 => (by rw [htf] at h9; cases h9)⟩)
            · skip
              
              have htf : t2 = true := by simpa using cB2
              refine c_skip ?_
              refine hK11 _ _ ?_
              refine fg2 4 5 (gS rfl (gS rfl g0)) (gS rfl g0) (fun g => ?_)
              refine c_seq (fun K15 hK15 => ?_)
              exact (by
                refine c_region ?_
                refine l_step (y_moveV (et (gS rfl g0) rfl)) ?_
                refine l_step (y_moveV (et (gS rfl g0) rfl)) ?_
                refine l_step (y_assignV (et (gS rfl g0) rfl)) ?_
                refine l_step (y_assignV (et (gS rfl g0) rfl)) ?_
                refine l_step y_assignC ?_
                refine l_nil ?_
                refine hK15 _ _ ?_
                refine fg3 4 5 6 (gS rfl (gS rfl g0)) (gS rfl g0) g0 (fun g => ?_)
                refine c_ret ?_
                repeat with_reducible refine then_ret ?_
                refine ret3 rfl (res_tmp (et (gS rfl (gS rfl g0)) rfl)) (res_tmp (et (gS rfl g0) rfl)) (res_tmp (et g0 rfl)) ?_
                obtain ⟨bc, col1, e1, f1, x1, z1⟩ := hx1 htf
                obtain ⟨bs, e2, f2, y2⟩ := hx2 htf
                subst e1
                subst e2
                exact ⟨t2, _, _, _, rfl, G, ht1, fun h9 => (by rw [htf] at h9; cases h9), fun _ => ⟨bc, bs, col1, rfl, rfl, Nat.le_trans wq f1, Nat.le_trans (Nat.le_trans wq uq1) f2, ⟨x1.go Vx9 (fun _ h => h.elim), y2.go Vy8 (fun h => h), ini_ii (ht1.1 htf).1, x1.new bs f2⟩, fun b hb => z1 b (Nat.lt_of_lt_of_le hb wq)⟩⟩))))))
/-- what a transaction does, plainly -/
def ApR (s : YSt) (T : YTx) (s' : YSt) (ver sts used made : Nat) (out : List Nat) (logs : List YLog) : Prop :=
  (verdN s T ≠ 0 ∧ s' = s ∧ ver = verdN s T ∧ sts = 0 ∧ used = 0 ∧ made = 0 ∧ out = [] ∧ logs = []) ∨
  ∃ m z, verdN s T = 0 ∧ Rn m (begY s T) z ∧ s' = finY z ∧ ver = 0 ∧ sts = z.status ∧ used = useN z ∧ made = (if z.status = 0 then z.made else 0) ∧ out = z.ret ∧ logs = z.now.logs
theorem ApR.no {s : YSt} {T : YTx} (h : verdN s T ≠ 0) : ApR s T s (verdN s T) 0 0 0 [] [] := .inl ⟨h, rfl, rfl, rfl, rfl, rfl, rfl, rfl⟩
theorem ApR.yes {s : YSt} {T : YTx} {m : Nat} {z : YSt} (h : verdN s T = 0) (h2 : Rn m (begY s T) z) : ApR s T (finY z) 0 z.status (useN z) (if z.status = 0 then z.made else 0) z.ret z.now.logs := .inr ⟨m, z, h, h2, rfl, rfl, rfl, rfl, rfl, rfl, rfl⟩
theorem e_applyX {w : World} {H : Store} {col : Nat → Nat} {bc : Nat} {s : YSt} (h : XI w H col bc s) (hi : II s) {txc : List Value} {T : YTx} (ht : TC H txc.toArray T) (htl : txc.length = 174) :
    Ret 6 [.pointer (some ⟨bc, 0, none⟩), .agg txc.toArray] w (fun v w' => ∃ (H' : Store) (col' : Nat → Nat) (s' : YSt) (ver sts used made : Nat) (out : List Nat) (logs : List YLog) (oa la : Option Addr) (oc lc : Nat), v = .agg (rcC ver sts used (.slice oa out.length oc) (.slice la logs.length lc) made).toArray ∧ BV H' (.slice oa out.length oc) out ∧ LV P_log 22 H' (.slice la logs.length lc) logs ∧ ET w H col w' H' col' ∧ XI w' H' col' bc s' ∧ II s' ∧ sts ≤ 12 ∧ (∀ x ∈ logs, x.topics.length ≤ 4) ∧ logs.length < 9223372036854775808 ∧ ApR s T s' ver sts used made out logs) := by
  obtain ⟨cs, V, tg, hd, hX, hL, hv, he⟩ := h.ex
  by_cases hv0 : verdN s T = 0
  · refine (e_apply0 hX hX.vl.fz hL hv hi he ht htl hv0).mono (fun v w' ⟨m, z, hR, H', oa, la, oc, lc, col', cs', V', h1, h2, h3, h4, h5, h6, h7⟩ => ?_)
    have hie := hR.ie
    exact ⟨H', col', finY z, 0, z.status, useN z, _, z.ret, z.now.logs, oa, la, oc, lc, h1, h2, h3, h4.et, XI.of h4 h5 h6 h7, fin_ii hie, hie.sts, fun x hx => (hie.b.now.wf.logs x hx).1, (by obtain ⟨a, c, e9, e8, e7⟩ := h3.val; omega), ApR.yes hv0 hR⟩
  · refine (e_applyV hX hX.vl.fz hL hv hi he ht htl hv0).mono (fun v w' ⟨h1, H', h2, h3⟩ => ?_)
    exact ⟨H', col, s, verdN s T, 0, 0, 0, [], [], none, none, 0, 0, h1, BV.nil _, LV.nil _ _ _, h2.et, XI.of h2 h3 hv he, hi, Nat.zero_le _, (fun x hx => by cases hx), (by decide), ApR.no hv0⟩
theorem y_applyX {w : World} {H : Store} {bs : Nat} {s s' : YSt} (h : YI w H bs s) (hi : II s) (hb : IBd s) {txc : List Value} {T : YTx} (ht : TC H txc.toArray T) (htl : txc.length = 174) {ver sts used made : Nat} {out : List Nat} {logs : List YLog} (hA : ApR s T s' ver sts used made out logs) :
    Ret 8 [.pointer (some ⟨bs, 0, none⟩), .agg txc.toArray] w (fun v w' => ∃ (H' : Store) (oa la : Option Addr) (oc lc : Nat), v = .agg (rcC ver sts used (.slice oa out.length oc) (.slice la logs.length lc) made).toArray ∧ BV H' (.slice oa out.length oc) out ∧ LV P_log 22 H' (.slice la logs.length lc) logs ∧ YQ w H w' H' bs s') := by
  rcases hA with ⟨hv0, rfl, rfl, rfl, rfl, rfl, rfl, rfl⟩ | ⟨_, _, hv0, hR, rfl, rfl, rfl, rfl, rfl, rfl, rfl⟩
  · exact (y_applyV (YQ.refl h) ht htl hv0).mono (fun v w' ⟨h1, H', h2⟩ => ⟨H', none, none, 0, 0, h1, BV.nil _, LV.nil _ _ _, h2⟩)
  · exact (y_apply0 (YQ.refl h) ht htl hi hb hv0 hR).mono (fun v w' ⟨H', oa, la, oc, lc, h1, h2, h3, h4⟩ => ⟨H', oa, la, oc, lc, h1, h2, h3, h4⟩)
end Go.Proofs.YgvaawGreat
