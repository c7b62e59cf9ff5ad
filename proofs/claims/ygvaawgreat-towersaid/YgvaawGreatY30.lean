import Derived.Test.YgvaawGreatY28
set_option maxRecDepth 100000
set_option maxHeartbeats 4000000
set_option linter.unusedSimpArgs false
set_option linter.unusedVariables false
namespace Go.Proofs.YgvaawGreat
open Go
/-- a list that can be read in the world -/
structure RV {α : Type} (P : Cp α) (k s0 : Nat) (H : Store) (w : World) (v : Value) (xs : List α) : Prop where
  ex : ∃ cs : List (List Value), cs.length = xs.length ∧ (∀ (i : Nat) c x, cs[i]? = some c → xs[i]? = some x → c.length = k ∧ P H c x) ∧ (((∃ q, v = .slice q 0 0) ∧ xs.length = 0) ∨ ∃ b o c, v = .slice (some ⟨b, o, none⟩) xs.length c ∧ b < s0 ∧ xs.length ≤ c ∧ c < 9223372036854775808 ∧ Row w b o cs.flatten)
theorem RV.ch {α : Type} {P : Cp α} {k s0 : Nat} {H : Store} {M : Nat → Prop} {w w' : World} {v : Value} {xs : List α} (h : RV P k s0 H w v xs) (c : Ch M w w') (hM : ∀ b, M b → s0 ≤ b) : RV P k s0 H w' v xs := by
  obtain ⟨cs, h1, h2, h3⟩ := h.ex
  refine ⟨cs, h1, h2, ?_⟩
  rcases h3 with h3 | ⟨b, o, c', e, hb, hc, h63, hr⟩
  · exact .inl h3
  · exact .inr ⟨b, o, c', e, hb, hc, h63, hr.ch c (fun hm => by have := hM b hm; omega)⟩
theorem RV.up {α : Type} {P : Cp α} {k s0 : Nat} {H : Store} {w w' : World} {v : Value} {xs : List α} (h : RV P k s0 H w v xs) (c : Up w w') : RV P k s0 H w' v xs := h.ch c (fun _ h => h.elim)
theorem RV.val {α : Type} {P : Cp α} {k s0 : Nat} {H : Store} {w : World} {v : Value} {xs : List α} (h : RV P k s0 H w v xs) : ∃ a c, v = .slice a xs.length c ∧ (a = none → xs.length = 0) := by
  obtain ⟨cs, h1, h2, h3⟩ := h.ex
  rcases h3 with ⟨⟨q, e⟩, h0⟩ | ⟨b, o, c, e, _⟩
  · exact ⟨q, 0, by rw [e, h0], fun _ => h0⟩
  · exact ⟨_, c, e, fun h => by cases h⟩
theorem RV.row {α : Type} {P : Cp α} {k s0 n c : Nat} {H : Store} {w : World} {a : Option Addr} {xs : List α} (h : RV P k s0 H w (.slice a n c) xs) {i : Nat} (hi : i < xs.length) : ∃ b o r, a = some ⟨b, o, none⟩ ∧ Row w b (o + i * k) r ∧ r.length = k ∧ P H r xs[i] := by
  obtain ⟨cs, h1, h2, h3⟩ := h.ex
  rcases h3 with ⟨e, h0⟩ | ⟨b, o, c', e, hb, hc, h63, hr⟩
  · omega
  · cases e
    have hc0 := h2 i cs[i] xs[i] (List.getElem?_eq_getElem (by omega)) (List.getElem?_eq_getElem hi)
    refine ⟨b, o, cs[i], rfl, fun j v hv => ?_, hc0.1, hc0.2⟩
    rw [Nat.add_assoc]
    refine hr (i * k + j) v (flatten_get (fun q hq => ?_) (List.getElem?_eq_getElem (by omega)) j v hv)
    obtain ⟨m, hm, e⟩ := List.getElem_of_mem hq
    exact (h2 m q xs[m] (by rw [List.getElem?_eq_getElem hm, e]) (List.getElem?_eq_getElem (by omega))).1
theorem LV.rv {α : Type} {P : Cp α} {k : Nat} {H : Store} {w : World} {v : Value} {xs : List α} (h : LV P k H v xs) (hF : Fz w H) : RV P k w.heap.size H w v xs := by
  obtain ⟨cs, h1, h2, h3⟩ := h.ex
  refine ⟨cs, h2, h3, ?_⟩
  rcases h1.at' with h4 | ⟨b, o, c, ds, e, g1, g2, g3, g4⟩
  · exact .inl h4
  · exact .inr ⟨b, o, c, e, hF.lt ⟨ds, g3⟩, g1, g2, (hF.blk b ds g3).row g4⟩
theorem GL.rv {α : Type} {P : Cp α} {H : Store} {base e k B : Nat} {w : World} {v : Value} {O : List α} (h : GL P H base e k B w v O) : RV P k w.heap.size H w v O := by
  obtain ⟨cs, h1, h2, h3⟩ := h.ex
  refine ⟨cs, h2, h3, ?_⟩
  rcases h1.own.2 with ⟨e1, e2⟩ | ⟨q, cap, cur, e1, g1, g2, g3, g4, g5, g6⟩
  · exact .inl ⟨⟨_, e1⟩, by omega⟩
  · refine .inr ⟨q, 0, cap, by rw [e1, h2], (Array.getElem?_eq_some_iff.1 g2).1, by omega, ?_, ?_⟩
    · have : cap ≤ 9223372036854775807 := by simpa [maxLen] using g4
      omega
    · have hb : Blk w q cur := ⟨e, g2⟩
      refine hb.row fun i v hv => ?_
      have hi : i < (cs.flatten).length := (List.getElem?_eq_some_iff.1 hv).1
      rw [← g6, List.getElem?_take] at hv
      rw [Nat.zero_add]
      split at hv
      · simpa using hv
      · cases hv
theorem LG.rv {w : World} {H : Store} {ol : Option Nat} {v : Value} {O : List YLog} (h : LG w H ol v O) (hF : Fz w H) : RV P_log 22 w.heap.size H w v O := by
  rcases h.ex with ⟨_, h2, _⟩ | ⟨q, _, _, h3⟩
  · exact h2.rv hF
  · exact h3.rv
/-- the cells of the records laid so far -/
structure CP {α : Type} (P : Cp α) (k : Nat) (H : Store) (cs : List (List Value)) (xs : List α) : Prop where
  get : ∀ (i : Nat) c x, cs[i]? = some c → xs[i]? = some x → c.length = k ∧ P H c x
theorem CP.mono {α : Type} {P : Cp α} {k : Nat} {H H' : Store} {cs : List (List Value)} {xs : List α} (h : CP P k H cs xs) (hl : Le H H') (mc : MC P := by first | with_reducible exact mc_addr | with_reducible exact mc_word | with_reducible exact mc_slot | with_reducible exact mc_acct | with_reducible exact mc_mark | with_reducible exact mc_tri | with_reducible exact mc_log | with_reducible exact mc_nat | with_reducible exact mc_access | with_reducible exact mc_sk | with_reducible exact mc_ea | with_reducible exact mc_es | with_reducible exact mc_raw | with_reducible exact mc_oslot | with_reducible exact mc_oacct | with_reducible exact mc_tx | assumption) : CP P k H' cs xs := ⟨fun i c x hc hx => ⟨(h.get i c x hc hx).1, mc.m _ _ _ _ hl (h.get i c x hc hx).2⟩⟩
theorem CP.nil {α : Type} (P : Cp α) (k : Nat) (H : Store) (xs : List α) : CP P k H [] xs := ⟨fun i c x hc => by simp at hc⟩
theorem CP.snoc {α : Type} {P : Cp α} {k i : Nat} {H : Store} {cs : List (List Value)} {xs : List α} {c : List Value} (h : CP P k H cs xs) (hl : cs.length = i) (hi : i < xs.length) (hc : c.length = k) (hP : P H c xs[i]) : CP P k H (cs ++ [c]) xs := ⟨fun j d x hd hx => by
  rcases Nat.lt_or_ge j cs.length with hj | hj
  · rw [List.getElem?_append_left hj] at hd; exact h.get j d x hd hx
  · rw [List.getElem?_append_right hj] at hd
    have hj0 : j - cs.length = 0 := by
      rcases Nat.eq_zero_or_pos (j - cs.length) with h0 | h0
      · exact h0
      · rw [List.getElem?_eq_none (by simp; omega)] at hd; cases hd
    rw [hj0] at hd
    simp at hd
    subst hd
    have hji : j = i := by omega
    subst hji
    rw [List.getElem?_eq_getElem hi] at hx
    cases hx
    exact ⟨hc, hP⟩⟩
theorem CP.len {α : Type} {P : Cp α} {k : Nat} {H : Store} {cs : List (List Value)} {xs : List α} (h : CP P k H cs xs) (hl : cs.length ≤ xs.length) : cs.flatten.length = cs.length * k := flen fun q hq => by
  obtain ⟨j, hj, e⟩ := List.getElem_of_mem hq
  exact (h.get j q xs[j] (by rw [List.getElem?_eq_getElem hj, e]) (List.getElem?_eq_getElem (by omega))).1
theorem fill_rec {cs : List (List Value)} {rest c : List Value} {i k : Nat} (hl : cs.flatten.length = i * k) (hc : c.length = k) (hr : k ≤ rest.length) : spl (cs.flatten ++ rest).toArray (0 + i * k) c = ((cs ++ [c]).flatten ++ rest.drop k).toArray := by
  have e : rest = rest.take k ++ rest.drop k := (List.take_append_drop k rest).symm
  apply Array.ext_getElem?
  intro j
  rw [Nat.zero_add]
  have hz : i * k + c.length ≤ (cs.flatten ++ rest).toArray.size := by rw [List.size_toArray, List.length_append]; omega
  by_cases h1 : i * k ≤ j ∧ j < i * k + k
  · have hj : j - i * k < c.length := by omega
    have := get_spl_in hz (List.getElem?_eq_getElem hj)
    rw [show i * k + (j - i * k) = j by omega] at this
    rw [this, List.getElem?_toArray, List.flatten_append, List.flatten_singleton, List.append_assoc, List.getElem?_append_right (by omega), hl, List.getElem?_append_left (by omega), List.getElem?_eq_getElem hj]
  · rw [get_spl_out hz (by omega), List.getElem?_toArray, List.getElem?_toArray, List.flatten_append, List.flatten_singleton, List.append_assoc]
    by_cases h2 : j < i * k
    · rw [List.getElem?_append_left (by omega), List.getElem?_append_left (by omega)]
    · rw [List.getElem?_append_right (by omega), List.getElem?_append_right (by omega), List.getElem?_append_right (by omega), List.getElem?_drop, hl, hc]
      congr 1
      omega
theorem made_list {w : World} {b n : Nat} {z : Value} (h : Blk w b (madeCells z.cells n)) : ∃ r : List Value, r.length = n ∧ Blk w b (([] : List (List Value)).flatten ++ r).toArray := by
  refine ⟨(madeCells z.cells n).toList, ?_, ?_⟩
  · rw [Array.length_toList, size_made]
  · rw [List.flatten_nil, List.nil_append, Array.toArray_toList]; exact h
theorem yp_logsOf {w : World} {H : Store} (hF : Fz w H) {s0 : Nat} {a : Option Addr} {c : Nat} {xs : List YLog} (hR : RV P_log 22 s0 H w (.slice a xs.length c) xs) (hs0 : s0 ≤ w.heap.size) (hn : xs.length < 16777216) (hLd : ∀ x ∈ xs, x.topics.length < 16777216 ∧ x.data.length ≤ 1099511627776) :
    Ret 71 [.slice a xs.length c] w (fun v w' => ∃ H', Go No w H w' H' ∧ LV P_log 22 H' v xs ∧ ∃ a n, v = .slice a n n) := by
  have han : a = none → xs.length = 0 := by obtain ⟨a9, c9, e9, h9⟩ := hR.val; cases e9; exact h9
  refine enter (n := 32) Hvaa.func71 rfl rfl (Nat.le_of_ble_eq_true rfl) ?_
  have U := Up.refl w
  have G : Go (No) w H w H := Go.refl hF
  have hL0 : Le H H := Le.refl H
  refine c_seq (fun K1 hK1 => ?_)
  exact (by
    refine c_region ?_
    refine l_step y_assignC ?_
    refine l_nil ?_
    refine hK1 _ _ ?_
    refine fg1 0 (gS rfl g0) (fun g => ?_)
    refine c_seq (fun K2 hK2 => ?_)
    refine c_seq (fun K3 hK3 => ?_)
    exact (by
      refine c_region ?_
      refine l_step (y_moveV (et g0 rfl)) ?_
      refine l_step (y_eqlNS Hvaa.underlying42 (et g0 rfl) rfl) ?_
      refine l_nil ?_
      refine hK3 _ _ ?_
      refine fg2 0 7 (gS rfl (gS rfl g0)) g0 (fun g => ?_)
      refine c_cond (et g0 rfl) (fun cB1 => ?_) (fun cB1 => ?_)
      · skip
        
        have hz : xs.length = 0 := han (by simpa using cB1)
        refine c_seq (fun K5 hK5 => ?_)
        exact (by
          refine c_region ?_
          refine l_step y_assignC ?_
          refine l_nil ?_
          refine hK5 _ _ ?_
          refine fg1 2 g0 (fun g => ?_)
          refine c_ret ?_
          repeat with_reducible refine then_ret ?_
          refine ret1 rfl (res_tmp (et g0 rfl)) ?_
          exact ⟨_, G, by rw [List.length_eq_zero_iff.1 hz]; exact LV.nil _ _ _, none, 0, rfl⟩)
      · skip
        
        have ha9 : a ≠ none := fun e => by rw [e] at cB1; cases cB1
        refine c_skip ?_
        refine hK2 _ _ ?_
        refine fg1 0 (gS rfl g0) (fun g => ?_)
        refine c_seq (fun K6 hK6 => ?_)
        exact (by
          refine c_region ?_
          refine l_step (y_moveV (et g0 rfl)) ?_
          refine l_step (y_len Hvaa.underlying42 (et g0 rfl)) ?_
          refine l_eff (e_make Hvaa.underlying42 sz_131 zr_131 by_131 (et g0 rfl) (et g0 rfl) (by omega) (by omega)) (fun v7 w7 h7 => ?_)
          obtain ⟨b7, rfl, n7⟩ := h7
          have f7 : w.heap.size ≤ b7 := Nat.le_trans U.size n7.fresh
          have nb7 := hF.nb n7.fresh
          replace G := G.tr (Go.ofUp hF n7.up)
          replace hF := hF.up n7.up
          replace hR := hR.up n7.up
          replace U := U.tr n7.up
          have k7 := n7.blk
          obtain ⟨rest0, hr0, k7⟩ := made_list k7
          refine l_step (y_assignV (et g0 rfl)) ?_
          refine l_nil ?_
          refine hK6 _ _ ?_
          refine fg2 0 3 (gS rfl (gS rfl (gS rfl (gS rfl g0)))) g0 (fun g => ?_)
          refine c_seq (fun K8 hK8 => ?_)
          refine c_seq (fun K9 hK9 => ?_)
          exact (by
            refine c_region ?_
            refine l_step (y_moveV (et (gS rfl g0) rfl)) ?_
            refine l_step (y_len Hvaa.underlying42 (et g0 rfl)) ?_
            refine l_step y_moveC ?_
            refine l_nil ?_
            refine hK9 _ _ ?_
            refine fg4 3 11 12 13 (gS rfl (gS rfl (gS rfl g0))) (gS rfl (gS rfl g0)) (gS rfl g0) g0 (fun g => ?_)
            refine c_block (fun Q10 hQ10 => ?_)
            refine fg4 3 11 12 13 (gS rfl (gS rfl (gS rfl g0))) (gS rfl (gS rfl g0)) (gS rfl g0) g0 (fun g => ?_)
            refine c_loop (fun k_ s_ W11 => ∃ (g : Nat → Value) (Hk11 : Store) (cs : List (List Value)) (rest : List Value) (i : Nat), s_ = (upd (upd (upd (upd g 3 (.slice (some ⟨b7, 0, none⟩) xs.length xs.length)) 11 (.slice a xs.length c)) 12 (.int .i64 (xs.length : Nat))) 13 (.int .i64 (i : Nat))) ∧ xs.length - i = k_ ∧ (i ≤ xs.length) ∧ (cs.length = i) ∧ (rest.length = (xs.length - i) * 22) ∧ (CP P_log 22 Hk11 cs xs) ∧ Blk W11 b7 ((cs.flatten ++ rest).toArray) ∧ Go (fun k => k = b7) w7 H W11 Hk11) (xs.length - (0)) ?_ ?_
            · exact ⟨g, _, [], rest0, 0, rfl, rfl, Nat.zero_le _, rfl, by rw [hr0, Nat.sub_zero], CP.nil _ _ _ _, k7, Go.refl hF⟩
            · skip
              intro k_ s_ W11 hI K11 hK11
              obtain ⟨g, Hk11, cs, rest, i, rfl, rfl, hi, hcl, hrl, hcp, nk7, V11⟩ := hI
              have hle11 := V11.le
              replace nb7 := V11.nb nb7 k7.lt
              replace hL0 := hL0.trans hle11
              replace G := G.trans V11 (by intro b hb; first | exact hb.elim | omega | (simp at hb ⊢; omega))
              replace hF := V11.fz
              replace hR := hR.ch V11.ch (by first | omega | (intro q hq; omega))
              replace k7 := nk7
              replace U := U.cc V11.ch (by intro b hb; first | exact hb.elim | omega | (simp at hb ⊢; omega))
              refine c_seq (fun K12 hK12 => ?_)
              exact (by
                refine c_region ?_
                refine l_step (y_lss (et g0 rfl) (et (gS rfl g0) rfl)) ?_
                refine l_nil ?_
                refine hK12 _ _ ?_
                refine c_seq (fun K13 hK13 => ?_)
                refine c_cond (et g0 rfl) (fun cB2 => ?_) (fun cB2 => ?_)
                · skip
                  
                  have hil : i < xs.length := by have := of_decide_eq_true cB2; omega
                  refine c_skip ?_
                  refine hK13 _ _ ?_
                  refine fg4 3 11 12 13 (gS rfl (gS rfl (gS rfl (gS rfl g0)))) (gS rfl (gS rfl (gS rfl g0))) (gS rfl (gS rfl g0)) (gS rfl g0) (fun g => ?_)
                  refine c_seq (fun K15 hK15 => ?_)
                  refine c_block (fun Q16 hQ16 => ?_)
                  refine c_seq (fun K17 hK17 => ?_)
                  exact (by
                    refine c_region ?_
                    refine l_step (y_moveV (et g0 rfl)) ?_
                    obtain ⟨bq, oq, r, ha0, hrow, hrr, vt, vd, hr1, hal, hvt, hvd⟩ := hR.row (i := i) hil
                    rw [hr1] at hrow hrr
                    obtain ⟨ta, tc, rfl, htl, htc⟩ := hvt.val
                    obtain ⟨da, dc, rfl, hdl⟩ := hvd.sv.val
                    have hLx := hLd _ (List.getElem_mem (show i < xs.length by omega))
                    refine l_step (y_idxSa ha0 Hvaa.underlying42 sz_131 (et (gS rfl (gS rfl (gS rfl g0))) rfl) (et (gS rfl g0) rfl) ?_) ?_
                    omega
                    refine l_step (y_loadR agg_131 sz_131 (et g0 rfl) len22 (at1R hrow)) ?_
                    refine l_eff (e_alloc zr_131) (fun v18 w18 h18 => ?_)
                    obtain ⟨b18, rfl, n18⟩ := h18
                    have d7_18 : b7 < b18 := Nat.lt_of_lt_of_le k7.lt n18.fresh
                    have f18 : w.heap.size ≤ b18 := Nat.le_trans U.size n18.fresh
                    have nb18 := hF.nb n18.fresh
                    have fV11_18 := Nat.le_trans V11.ch.size n18.fresh
                    replace G := G.tr (Go.ofUp hF n18.up)
                    replace V11 := V11.tr (Go.ofUp hF n18.up)
                    replace hF := hF.up n18.up
                    replace k7 := k7.up n18.up
                    replace hR := hR.up n18.up
                    replace U := U.tr n18.up
                    have k18 := n18.blk
                    refine l_step (y_assignV (et (gS rfl (gS rfl (gS rfl g0))) rfl)) ?_
                    refine l_effN (e_store sz_131 (et (gS rfl g0) rfl) (cellsV (et (gS rfl (gS rfl g0)) rfl) rfl) len22 (by exact one_app (one_two rfl rfl)) k18 (by exact Nat.le_of_ble_eq_true rfl)) (fun v19 w19 h19 => ?_)
                    obtain ⟨rfl, x19⟩ := h19
                    replace k7 := k7.ch x19.ch (by omega)
                    replace hR := hR.ch x19.ch (by first | omega | (first | omega | (intro q hq; omega)))
                    replace k18 := x19.blk.full (by rw [len22]; rfl)
                    replace G := G.wr x19 (by first | exact .inr f18 | omega | (simp; omega)) nb18
                    replace V11 := V11.wr x19 (by first | exact .inr f18 | omega | (simp; omega)) nb18
                    replace hF := G.fz
                    replace U := U.st x19 f18
                    refine l_nil ?_
                    refine hK17 _ _ ?_
                    refine fg6 3 11 12 13 5 4 (gS rfl (gS rfl (gS rfl (gS rfl (gS rfl (gS rfl (gS rfl (gS rfl g0)))))))) (gS rfl (gS rfl (gS rfl (gS rfl (gS rfl (gS rfl (gS rfl g0))))))) (gS rfl (gS rfl (gS rfl (gS rfl (gS rfl (gS rfl g0)))))) (gS rfl (gS rfl (gS rfl (gS rfl (gS rfl g0))))) (gS rfl g0) g0 (fun g => ?_)
                    refine c_draw Up 12 [(0, true), (1, true), (2, true), (3, true), (4, true), (5, true), (7, true), (8, true), (6, false), (9, false), (10, true), (11, true), (12, false)] (by kernel_rfl) (fun w20 hu => ⟨Up.refl _, ?_⟩)
                    replace G := G.tr (Go.ofUp hF hu)
                    replace V11 := V11.tr (Go.ofUp hF hu)
                    replace hF := hF.up hu
                    replace k7 := k7.up hu
                    replace k18 := k18.up hu
                    replace hR := hR.up hu
                    replace U := U.tr hu
                    have SU := Up.refl w20
                    exact (by
                      refine p_step (by exact rfl) (y_moveV (et (gS rfl (gS rfl (gS rfl (gS rfl (gS rfl g0))))) rfl)) ?_
                      refine p_step (by exact rfl) (y_moveV (et (gS rfl g0) rfl)) ?_
                      refine p_step (by exact rfl) (y_fld fld_131_0 (et (gS rfl (gS rfl (gS rfl g0))) rfl)) ?_
                      refine p_step (by exact rfl) (y_loadR agg_25 sz_25 (et g0 rfl) (by rw [length_bL, length_be]) (atSR (k18.row addr_row))) ?_
                      refine p_step (by exact rfl) (y_fld fld_131_1 (et (gS rfl (gS rfl (gS rfl (gS rfl (gS rfl g0))))) rfl)) ?_
                      refine p_step (by exact rfl) (y_load1 one_29 (et g0 rfl) (atS (k18.cell ((app20 (i := 0) rfl).trans rfl)))) ?_
                      refine p_step (by exact rfl) (y_fld fld_131_2 (et (gS rfl (gS rfl (gS rfl (gS rfl (gS rfl (gS rfl (gS rfl g0))))))) rfl)) ?_
                      refine p_step (by exact rfl) (y_load1 one_38 (et g0 rfl) (atS (k18.cell ((app20 (i := 1) rfl).trans rfl)))) ?_
                      refine p_eff (by exact rfl) (e_callV cal_31 (aC (et (gS rfl (gS rfl g0)) rfl) aN) (yp_wordsOf hF (hvt.mono hL0) hLx.1)) (fun v21 w21 h21 => ?_)
                      obtain ⟨H21, g21, lv21⟩ := h21
                      have hlew21 := g21.le
                      replace nb7 := g21.nb nb7 k7.lt
                      replace nb18 := g21.nb nb18 k18.lt
                      replace hcp := hcp.mono hlew21
                      replace hL0 := hL0.trans hlew21
                      replace k7 := k7.up g21.up
                      replace k18 := k18.up g21.up
                      replace hR := hR.up g21.up
                      replace U := U.tr g21.up
                      replace G := G.tr g21
                      replace V11 := V11.tr g21
                      replace hF := g21.fz
                      obtain ⟨ya, yc, rfl, hyl, hyc⟩ := lv21.val
                      refine ⟨.inr (SU.tr g21.up), ?_⟩
                      replace SU := SU.tr g21.up
                      refine p_eff (by exact rfl) (e_callV cal_26 (aC (et (gS rfl g0) rfl) aN) (yp_bytes hF (hvd.mono hL0) hLx.2)) (fun v22 w22 h22 => ?_)
                      obtain ⟨H22, g22, b22⟩ := h22
                      have hlew22 := g22.le
                      replace nb7 := g22.nb nb7 k7.lt
                      replace nb18 := g22.nb nb18 k18.lt
                      replace hcp := hcp.mono hlew22
                      replace lv21 := lv21.mono hlew22
                      replace hL0 := hL0.trans hlew22
                      replace k7 := k7.up g22.up
                      replace k18 := k18.up g22.up
                      replace hR := hR.up g22.up
                      replace U := U.tr g22.up
                      replace G := G.tr g22
                      replace V11 := V11.tr g22
                      replace hF := g22.fz
                      obtain ⟨za, zc, rfl, hzl⟩ := b22.sv.val
                      refine ⟨.inr (SU.tr g22.up), ?_⟩
                      replace SU := SU.tr g22.up
                      exact (by
                        have hb23 : ∀ w, (Instr.build 131 ([(0, (Value.agg (bL (be 20 xs[i].addr)).toArray)), (1, (.slice ya xs[i].topics.length yc)), (2, (.slice za xs[i].data.length zc))] : List (Nat × Value)).toArray).run Hvaa.prog w = .ok (.agg ([(bL (be 20 xs[i].addr)), ([.slice ya xs[i].topics.length yc]), ([.slice za xs[i].data.length zc])] : List (List Value)).flatten.toArray) w := bld_run zr_131 plc_131 (fill_flat (off := 0) (k := 20) (f := (List.replicate 20 (.int .u8 0))) (c := bL (be 20 xs[i].addr)) (v := (Value.agg (bL (be 20 xs[i].addr)).toArray)) rfl rfl (by first | (simp [length_bL, length_be, length_uL]; done) | rfl) (by first | rfl | (simp [length_bL, length_be, length_uL]; done)) rfl (by first | (simp [length_bL, length_be, length_uL]; done) | rfl) (fill_flat (off := 20) (k := 1) (f := [.slice none 0 0]) (c := [.slice ya xs[i].topics.length yc]) (v := (.slice ya xs[i].topics.length yc)) rfl rfl (by first | (simp [length_bL, length_be, length_uL]; done) | rfl) (by first | (simp [length_bL, length_be, length_uL]; done) | rfl) rfl (by first | (simp [length_bL, length_be, length_uL]; done) | rfl) (fill_flat (off := 21) (k := 1) (f := [.slice none 0 0]) (c := [.slice za xs[i].data.length zc]) (v := (.slice za xs[i].data.length zc)) rfl rfl (by first | (simp [length_bL, length_be, length_uL]; done) | rfl) (by first | (simp [length_bL, length_be, length_uL]; done) | rfl) rfl (by first | (simp [length_bL, length_be, length_uL]; done) | rfl) (fill_nil _ _))))
                        refine p_step (by exact rfl) ((y_bld (bC (et (gS rfl (gS rfl (gS rfl (gS rfl (gS rfl (gS rfl g0)))))) rfl) (bC (et (gS rfl g0) rfl) (bC (et g0 rfl) bN))) hb23).to (congrArg (fun l : List Value => Value.agg l.toArray) (show _ = bL (be 20 xs[i].addr) ++ [.slice ya xs[i].topics.length yc, .slice za xs[i].data.length zc] by simp))) ?_
                        have hfl : cs.flatten.length = i * 22 := by rw [hcp.len (by omega), hcl]
                        have hkr : 22 ≤ rest.length := by rw [hrl]; omega
                        refine p_step (by exact rfl) (y_idxSa rfl Hvaa.underlying42 sz_131 (et (gS rfl (gS rfl (gS rfl (gS rfl (gS rfl (gS rfl (gS rfl (gS rfl (gS rfl (gS rfl g0)))))))))) rfl) (et (gS rfl (gS rfl (gS rfl (gS rfl (gS rfl (gS rfl (gS rfl (gS rfl (gS rfl g0))))))))) rfl) ?_) ?_
                        omega
                        refine p_effN (by exact rfl) (e_store sz_131 (et g0 rfl) (cellsV (et (gS rfl g0) rfl) rfl) len22 (by exact one_app (one_two rfl rfl)) k7 (by (rw [List.size_toArray, List.length_append, hfl, hrl]; omega))) (fun v24 w24 h24 => ?_)
                        obtain ⟨rfl, x24⟩ := h24
                        replace k18 := k18.ch x24.ch (by omega)
                        replace hR := hR.ch x24.ch (by first | omega | (first | omega | (intro q hq; omega)))
                        replace k7 := x24.blk
                        replace G := G.wr x24 (by first | exact .inr f7 | omega | (simp; omega)) nb7
                        replace V11 := V11.wr x24 (by first | exact .inr f7 | omega | (simp; omega)) nb7
                        replace hF := G.fz
                        replace U := U.st x24 f7
                        refine ⟨.inl rfl, ?_⟩
                        rw [fill_rec hfl len22 hkr] at k7
                        refine p_nil ?_
                        refine hQ16 _ _ _ (in_normal ?_)
                        refine hK15 _ _ ?_
                        refine fg4 3 11 12 13 (gS rfl (gS rfl (gS rfl (gS rfl (gS rfl (gS rfl (gS rfl (gS rfl (gS rfl (gS rfl (gS rfl (gS rfl (gS rfl (gS rfl (gS rfl (gS rfl (gS rfl g0))))))))))))))))) (gS rfl (gS rfl (gS rfl (gS rfl (gS rfl (gS rfl (gS rfl (gS rfl (gS rfl (gS rfl (gS rfl (gS rfl (gS rfl (gS rfl (gS rfl (gS rfl g0)))))))))))))))) (gS rfl (gS rfl (gS rfl (gS rfl (gS rfl (gS rfl (gS rfl (gS rfl (gS rfl (gS rfl (gS rfl (gS rfl (gS rfl (gS rfl (gS rfl g0))))))))))))))) (gS rfl (gS rfl (gS rfl (gS rfl (gS rfl (gS rfl (gS rfl (gS rfl (gS rfl (gS rfl (gS rfl (gS rfl (gS rfl (gS rfl g0)))))))))))))) (fun g => ?_)
                        refine c_region ?_
                        refine l_step (y_add (et g0 rfl) rfl (addIN (y := 1) ?_)) ?_
                        omega
                        refine l_step (y_moveV (et g0 rfl)) ?_
                        refine l_nil ?_
                        refine fK4 3 11 12 13 (gS rfl (gS rfl (gS rfl (gS rfl (gS rfl g0))))) (gS rfl (gS rfl (gS rfl (gS rfl g0)))) (gS rfl (gS rfl (gS rfl g0))) g0 (fun g => ?_)
                        exact hK11 (xs.length - ((i + 1))) _ _ (by omega) ⟨g, _, _, _, (i + 1), rfl, rfl, by omega, by rw [List.length_append, hcl]; rfl, by rw [List.length_drop, hrl]; omega, hcp.snoc hcl hil len22 ⟨_, _, rfl, hal, lv21, b22⟩, k7, V11⟩)))
                · skip
                  
                  have hil : i = xs.length := by have := of_decide_eq_false cB2; omega
                  obtain rfl : rest = [] := List.length_eq_zero_iff.1 (by rw [hrl, hil]; omega)
                  rw [List.append_nil] at k7
                  refine c_exit ?_
                  refine hQ10 _ _ _ (in_exit ?_)
                  refine hK8 _ _ ?_
                  refine fg1 3 (gS rfl (gS rfl (gS rfl (gS rfl g0)))) (fun g => ?_)
                  refine c_seq (fun K25 hK25 => ?_)
                  exact (by
                    refine c_region ?_
                    refine l_step (y_moveV (et g0 rfl)) ?_
                    refine l_step (y_assignV (et g0 rfl)) ?_
                    refine l_nil ?_
                    refine hK25 _ _ ?_
                    refine fg1 2 g0 (fun g => ?_)
                    refine c_ret ?_
                    repeat with_reducible refine then_ret ?_
                    refine ret1 rfl (res_tmp (et g0 rfl)) ?_
                    obtain ⟨H2, g2, l2, e2⟩ := G.hold k7 f7
                    exact ⟨H2, g2, LV.ofNew e2 l2 mono_log rfl (by omega) (by omega) hcp.get, _, _, rfl⟩))))))
end Go.Proofs.YgvaawGreat
