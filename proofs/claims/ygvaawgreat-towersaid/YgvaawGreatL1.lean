import Derived.Test.YgvaawGreatX9
import Derived.Test.YgvaawGreatQ5
set_option maxRecDepth 100000
set_option maxHeartbeats 4000000
set_option linter.unusedSimpArgs false
set_option linter.unusedVariables false
namespace Go.Proofs.YgvaawGreat
open Go
def P_oslot : Cp (Nat × Nat) := fun _ c x => c = bL (be 32 x.1) ++ bL (be 32 x.2) ∧ x.1 < W256 ∧ x.2 < W256
theorem mono_oslot : Mono P_oslot := fun _ _ _ _ _ h => h
theorem mc_oslot : MC P_oslot := ⟨mono_oslot⟩
def oaC (A : YAcct) (vc vs : Value) : List Value := bL (be 20 A.addr) ++ (.int .u64 (A.nonce : Nat) :: (bL (be 32 A.bal) ++ [vc, vs]))
def P_oacct : Cp YAcct := fun H c A => ∃ vc vs, c = oaC A vc vs ∧ A.addr < A160 ∧ BV H vc A.code ∧ LV P_oslot 64 H vs A.slots ∧ A.nonce < 18446744073709551616 ∧ A.bal < W256
theorem mono_oacct : Mono P_oacct := fun _ _ _ _ hl ⟨vc, vs, h1, h2, h3, h4, h5⟩ => ⟨vc, vs, h1, h2, h3.mono hl, h4.mono' mono_oslot hl, h5⟩
theorem mc_oacct : MC P_oacct := ⟨mono_oacct⟩
theorem oaC_len {A : YAcct} {vc vs : Value} : (oaC A vc vs).length = 55 := by
  unfold oaC
  simp only [List.length_append, List.length_cons, List.length_nil, length_bL, length_be]
theorem oaC_adr {A : YAcct} {vc vs : Value} : RowIn (oaC A vc vs).toArray 0 (bL (be 20 A.addr)) := RowIn.app _ _
theorem oaC_at {A : YAcct} {vc vs : Value} {i o : Nat} (h : o = 20 + i) : (oaC A vc vs).toArray[o]? = ((.int .u64 (A.nonce : Nat) :: (bL (be 32 A.bal) ++ [vc, vs])) : List Value)[i]? := app20 h
theorem oaC_non {A : YAcct} {vc vs : Value} : (oaC A vc vs).toArray[20]? = some (.int .u64 (A.nonce : Nat)) := oaC_at (i := 0) rfl
theorem oaC_tl {A : YAcct} {vc vs : Value} {i o : Nat} (h : o = 53 + i) : (oaC A vc vs).toArray[o]? = ([vc, vs] : List Value)[i]? := by
  rw [oaC_at (i := 33 + i) (by omega), show 33 + i = (32 + i) + 1 by omega, List.getElem?_cons_succ, List.getElem?_append_right (by rw [length_bL, length_be]; omega), length_bL, length_be, show 32 + i - 32 = i by omega]
theorem oaC_cod {A : YAcct} {vc vs : Value} : (oaC A vc vs).toArray[53]? = some vc := oaC_tl (i := 0) rfl
theorem oaC_sto {A : YAcct} {vc vs : Value} : (oaC A vc vs).toArray[54]? = some vs := oaC_tl (i := 1) rfl
theorem oaC_bal {A : YAcct} {vc vs : Value} : RowIn (oaC A vc vs).toArray 21 (bL (be 32 A.bal)) := fun i v hv => by
  have hi := (List.getElem?_eq_some_iff.1 hv).1
  rw [oaC_at (i := 1 + i) (by omega), show 1 + i = i + 1 by omega, List.getElem?_cons_succ, List.getElem?_append_left hi]
  exact hv
theorem oaC_one {A : YAcct} {vc vs : Value} (h1 : vc.one1 = true) (h2 : vs.one1 = true) : ∀ v ∈ oaC A vc vs, v.one1 = true := by
  refine one_app ?_
  intro v hv
  rcases List.mem_cons.1 hv with h | h
  · rw [h]; rfl
  · rcases List.mem_append.1 h with h | h
    · exact one_bL _ v h
    · exact one_two h1 h2 v h
theorem os_len {k v : Nat} : (bL (be 32 k) ++ bL (be 32 v)).length = 64 := by rw [List.length_append, length_bL, length_be, length_bL, length_be]
theorem os_one {k v : Nat} : ∀ x ∈ bL (be 32 k) ++ bL (be 32 v), x.one1 = true := fun x hx => by
  rcases List.mem_append.1 hx with h | h
  · exact one_bL _ x h
  · exact one_bL _ x h
theorem os_val {k v : Nat} : RowIn (bL (be 32 k) ++ bL (be 32 v)).toArray 32 (bL (be 32 v)) := fun i x hx => by
  rw [List.getElem?_toArray, List.getElem?_append_right (by rw [length_bL, length_be]; omega), length_bL, length_be, show 32 + i - 32 = i by omega]
  exact hx
theorem wv_row20 {w : World} {b o x : Nat} (h : Row w b o (bL (be 20 x))) : WV w.heap.size w (.slice (some ⟨b, o, none⟩) 20 20) (be 20 x) :=
  ⟨be_lt 20 x, .inr ⟨b, o, 20, by rw [length_be], (be_head 19 x).elim fun _ hv => h.blt hv, by rw [length_be]; exact Nat.le_refl _, by decide, h⟩⟩
theorem law_eqSame {s0 s1 : Nat} {va vb : Value} {l : List Nat} (w : World) (hA : WV s0 w va l) (hB : WV s1 w vb l) : Ret 40 [va, vb] w (fun v w' => v = .bool true ∧ Up w w') :=
  (law_equalBytes w hA hB).mono (fun v w' h => ⟨by rw [h.1, decide_eq_true rfl], h.2⟩)
theorem law_wordsSame {H : Store} {sa ta : Option Addr} {sc tc : Nat} {xs : List Nat} (w : World) (hF : Fz w H) (hA : LV P_word 32 H (.slice sa xs.length sc) xs) (hB : LV P_word 32 H (.slice ta xs.length tc) xs) (hl : xs.length < 9223372036854775807) : Ret 41 [.slice sa xs.length sc, .slice ta xs.length tc] w (fun v w' => v = .bool true ∧ Up w w') :=
  (law_wordsMeet w (hA.rv hF) (hB.rv hF) hl (Nat.le_refl _) (Nat.le_refl _)).mono (fun v w' h => ⟨by rw [h.1, decide_eq_true rfl], h.2⟩)
theorem rcC_made (ver sts used : Nat) (vo vl : Value) (made : Nat) : RowIn (rcC ver sts used vo vl made).toArray 5 (bL (be 20 made)) := fun i v hv => by
  unfold rcC
  rw [List.getElem?_toArray, List.getElem?_append_right (by simp)]
  rw [show 5 + i - ([Value.int .u8 (ver : Nat), .int .u8 (sts : Nat), .int .u64 (used : Nat), vo, vl] : List Value).length = i by simp]
  exact hv
theorem law_receiptsMeet {w : World} {H : Store} (hF : Fz w H) {ver sts used made : Nat} {oa ob la lb : Option Addr} {oc od lc ld : Nat} {out : List Nat} {xs : List YLog} (hO1 : BV H (.slice oa out.length oc) out) (hO2 : BV H (.slice ob out.length od) out) (hL1 : LV P_log 22 H (.slice la xs.length lc) xs) (hL2 : LV P_log 22 H (.slice lb xs.length ld) xs) (hln : xs.length < 9223372036854775808) (hlg : ∀ x ∈ xs, x.topics.length ≤ 4) :
    Ret 17 [.agg (rcC ver sts used (.slice oa out.length oc) (.slice la xs.length lc) made).toArray, .agg (rcC ver sts used (.slice ob out.length od) (.slice lb xs.length ld) made).toArray] w (fun v w' => v = .bool true ∧ Up w w') := by
  refine enter (n := 91) Hvaa.func17 rfl rfl (Nat.le_of_ble_eq_true rfl) ?_
  have U := Up.refl w
  have G : Go (No) w H w H := Go.refl hF
  have hL0 : Le H H := Le.refl H
  refine c_seq (fun K1 hK1 => ?_)
  exact (by
    refine c_region ?_
    refine l_eff (e_boxV (et g0 rfl)) (fun v2 w2 h2 => ?_)
    obtain ⟨b2, rfl, n2⟩ := h2
    have f2 : w.heap.size ≤ b2 := Nat.le_trans U.size n2.fresh
    have nb2 := hF.nb n2.fresh
    replace G := G.tr (Go.ofUp hF n2.up)
    replace hF := hF.up n2.up
    replace U := U.tr n2.up
    have k2 := n2.blk
    replace k2 : Blk w2 b2 (rcC ver sts used (.slice oa out.length oc) (.slice la xs.length lc) made).toArray := k2
    refine l_eff (e_boxV (et (gS rfl (gS rfl g0)) rfl)) (fun v3 w3 h3 => ?_)
    obtain ⟨b3, rfl, n3⟩ := h3
    have d2_3 : b2 < b3 := Nat.lt_of_lt_of_le k2.lt n3.fresh
    have f3 : w.heap.size ≤ b3 := Nat.le_trans U.size n3.fresh
    have nb3 := hF.nb n3.fresh
    replace G := G.tr (Go.ofUp hF n3.up)
    replace hF := hF.up n3.up
    replace k2 := k2.up n3.up
    replace U := U.tr n3.up
    have k3 := n3.blk
    replace k3 : Blk w3 b3 (rcC ver sts used (.slice ob out.length od) (.slice lb xs.length ld) made).toArray := k3
    refine l_step y_assignC ?_
    refine l_nil ?_
    refine hK1 _ _ ?_
    refine fg2 2 3 (gS rfl (gS rfl g0)) (gS rfl g0) (fun g => ?_)
    refine c_seq (fun K4 hK4 => ?_)
    refine c_seq (fun K5 hK5 => ?_)
    exact (by
      refine c_region ?_
      refine l_step (y_fld fld_44_4 (et (gS rfl g0) rfl)) ?_
      refine l_step (y_load1 one_42 (et g0 rfl) (at1 (k2.cell (show _ = some (Value.slice la xs.length lc) from rfl)))) ?_
      refine l_step (y_len Hvaa.underlying42 (et g0 rfl)) ?_
      refine l_step (y_fld fld_44_4 (et (gS rfl (gS rfl (gS rfl g0))) rfl)) ?_
      refine l_step (y_load1 one_42 (et g0 rfl) (at1 (k3.cell (show _ = some (Value.slice lb xs.length ld) from rfl)))) ?_
      refine l_step (y_len Hvaa.underlying42 (et g0 rfl)) ?_
      refine l_step (y_neq (et (gS rfl (gS rfl (gS rfl g0))) rfl) (et g0 rfl)) ?_
      refine l_nil ?_
      refine hK5 _ _ ?_
      refine fg3 2 3 15 (gS rfl (gS rfl (gS rfl (gS rfl (gS rfl (gS rfl (gS rfl (gS rfl g0)))))))) (gS rfl (gS rfl (gS rfl (gS rfl (gS rfl (gS rfl (gS rfl g0))))))) g0 (fun g => ?_)
      refine c_false (et g0 rfl) (by (exact decide_eq_false (fun h => h rfl))) ?_
      refine c_skip ?_
      refine hK4 _ _ ?_
      refine fg2 2 3 (gS rfl (gS rfl g0)) (gS rfl g0) (fun g => ?_)
      refine c_seq (fun K7 hK7 => ?_)
      exact (by
        refine c_region ?_
        refine l_step y_assignC ?_
        refine l_nil ?_
        refine hK7 _ _ ?_
        refine c_seq (fun K8 hK8 => ?_)
        refine c_seq (fun K9 hK9 => ?_)
        exact (by
          refine c_region ?_
          refine l_step (y_fld fld_44_4 (et (gS rfl (gS rfl g0)) rfl)) ?_
          refine l_step (y_load1 one_42 (et g0 rfl) (at1 (k2.cell (show _ = some (Value.slice la xs.length lc) from rfl)))) ?_
          refine l_step (y_len Hvaa.underlying42 (et g0 rfl)) ?_
          refine l_step y_moveC ?_
          refine l_nil ?_
          refine hK9 _ _ ?_
          refine fg6 2 3 5 17 18 19 (gS rfl (gS rfl (gS rfl (gS rfl (gS rfl (gS rfl g0)))))) (gS rfl (gS rfl (gS rfl (gS rfl (gS rfl g0))))) (gS rfl (gS rfl (gS rfl (gS rfl g0)))) (gS rfl (gS rfl g0)) (gS rfl g0) g0 (fun g => ?_)
          refine c_block (fun Q10 hQ10 => ?_)
          refine fg6 2 3 5 17 18 19 (gS rfl (gS rfl (gS rfl (gS rfl (gS rfl g0))))) (gS rfl (gS rfl (gS rfl (gS rfl g0)))) (gS rfl (gS rfl (gS rfl g0))) (gS rfl (gS rfl g0)) (gS rfl g0) g0 (fun g => ?_)
          refine c_loop (fun k_ s_ W11 => ∃ (g : Nat → Value) (Hk11 : Store) (i : Nat), s_ = (upd (upd (upd (upd (upd (upd g 2 (.pointer (some ⟨b2, 0, none⟩))) 3 (.pointer (some ⟨b3, 0, none⟩))) 5 (.int .i64 0)) 17 (.slice la xs.length lc)) 18 (.int .i64 (xs.length : Nat))) 19 (.int .i64 (i : Nat))) ∧ xs.length - i = k_ ∧ (i ≤ xs.length) ∧ Go (fun k => False) w3 H W11 Hk11) (xs.length - (0)) ?_ ?_
          · exact ⟨g, _, 0, rfl, rfl, Nat.zero_le _, Go.refl hF⟩
          · skip
            intro k_ s_ W11 hI K11 hK11
            obtain ⟨g, Hk11, i, rfl, rfl, hi, V11⟩ := hI
            have hle11 := V11.le
            replace nb2 := V11.nb nb2 k2.lt
            replace nb3 := V11.nb nb3 k3.lt
            replace hL0 := hL0.trans hle11
            replace G := G.trans V11 (by intro b hb; first | exact hb.elim | omega | (simp at hb ⊢; omega))
            replace hF := V11.fz
            replace k2 := k2.ch V11.ch (by exact fun h => h)
            replace k3 := k3.ch V11.ch (by exact fun h => h)
            replace U := U.cc V11.ch (by intro b hb; first | exact hb.elim | omega | (simp at hb ⊢; omega))
            refine c_seq (fun K12 hK12 => ?_)
            exact (by
              refine c_region ?_
              refine l_step (y_lss (et g0 rfl) (et (gS rfl g0) rfl)) ?_
              refine l_nil ?_
              refine hK12 _ _ ?_
              refine c_seq (fun K13 hK13 => ?_)
              refine c_cond (et g0 rfl) (fun cB2 => ?_) (fun cB2 => ?_)
              · skip
                
                have hil : i < xs.length := by have := of_decide_eq_true cB2; omega
                refine c_skip ?_
                refine hK13 _ _ ?_
                refine fg6 2 3 5 17 18 19 (gS rfl (gS rfl (gS rfl (gS rfl (gS rfl (gS rfl g0)))))) (gS rfl (gS rfl (gS rfl (gS rfl (gS rfl g0))))) (gS rfl (gS rfl (gS rfl (gS rfl g0)))) (gS rfl (gS rfl (gS rfl g0))) (gS rfl (gS rfl g0)) (gS rfl g0) (fun g => ?_)
                refine c_seq (fun K15 hK15 => ?_)
                refine c_block (fun Q16 hQ16 => ?_)
                refine c_seq (fun K17 hK17 => ?_)
                exact (by
                  refine c_region ?_
                  refine l_step (y_moveV (et g0 rfl)) ?_
                  obtain ⟨b1q, o1q, r1q, e1q, row1, len1q, vt1, vd1, hr1, ha1, hT1, hD1⟩ := (hL1.mono hL0).row hF (i := i) hil
                  rw [hr1] at row1 len1q
                  obtain ⟨ta1, tc1, rfl, ht1, hu1⟩ := hT1.val
                  obtain ⟨da1, dc1, rfl⟩ := hD1.sl
                  refine l_step (y_idxSa e1q Hvaa.underlying42 sz_131 (et (gS rfl (gS rfl (gS rfl g0))) rfl) (et (gS rfl g0) rfl) ?_) ?_
                  omega
                  refine l_step (y_loadR agg_131 sz_131 (et g0 rfl) len22 (at1R row1)) ?_
                  refine l_eff (e_alloc zr_131) (fun v18 w18 h18 => ?_)
                  obtain ⟨b18, rfl, n18⟩ := h18
                  have d2_18 : b2 < b18 := Nat.lt_of_lt_of_le k2.lt n18.fresh
                  have d3_18 : b3 < b18 := Nat.lt_of_lt_of_le k3.lt n18.fresh
                  have f18 : w.heap.size ≤ b18 := Nat.le_trans U.size n18.fresh
                  have nb18 := hF.nb n18.fresh
                  have fV11_18 := Nat.le_trans V11.ch.size n18.fresh
                  replace G := G.tr (Go.ofUp hF n18.up)
                  replace V11 := V11.tr (Go.ofUp hF n18.up)
                  replace hF := hF.up n18.up
                  replace k2 := k2.up n18.up
                  replace k3 := k3.up n18.up
                  replace U := U.tr n18.up
                  have k18 := n18.blk
                  obtain ⟨zs18, hz18, k18⟩ : ∃ cs : Array Value, cs.size = 22 ∧ Blk w18 b18 cs := ⟨_, rfl, k18⟩
                  refine l_step (y_assignV (et (gS rfl (gS rfl (gS rfl g0))) rfl)) ?_
                  refine l_effN (e_store sz_131 (et (gS rfl g0) rfl) (cellsV (et (gS rfl (gS rfl g0)) rfl) rfl) len22 (by exact one_app (one_two rfl rfl)) k18 (by (rw [hz18]; exact Nat.le_refl _))) (fun v19 w19 h19 => ?_)
                  obtain ⟨rfl, x19⟩ := h19
                  replace k2 := k2.ch x19.ch (by omega)
                  replace k3 := k3.ch x19.ch (by omega)
                  replace k18 := x19.blk.full (by rw [len22, hz18])
                  replace G := G.wr x19 (by first | exact .inr f18 | exact .inl rfl | omega | (simp; omega)) nb18
                  replace V11 := V11.wr x19 (by first | exact .inr f18 | exact .inl rfl | omega | (simp; omega)) nb18
                  replace hF := G.fz
                  replace U := U.st x19 f18
                  refine l_nil ?_
                  refine hK17 _ _ ?_
                  refine fg8 2 3 5 17 18 19 7 6 (gS rfl (gS rfl (gS rfl (gS rfl (gS rfl (gS rfl (gS rfl (gS rfl (gS rfl (gS rfl g0)))))))))) (gS rfl (gS rfl (gS rfl (gS rfl (gS rfl (gS rfl (gS rfl (gS rfl (gS rfl g0))))))))) (gS rfl (gS rfl (gS rfl (gS rfl (gS rfl (gS rfl (gS rfl (gS rfl g0)))))))) (gS rfl (gS rfl (gS rfl (gS rfl (gS rfl (gS rfl (gS rfl g0))))))) (gS rfl (gS rfl (gS rfl (gS rfl (gS rfl (gS rfl g0)))))) (gS rfl (gS rfl (gS rfl (gS rfl (gS rfl g0))))) (gS rfl g0) g0 (fun g => ?_)
                  refine c_seq (fun K20 hK20 => ?_)
                  exact (by
                    refine c_region ?_
                    refine l_step (y_fld fld_44_4 (et (gS rfl (gS rfl (gS rfl (gS rfl (gS rfl (gS rfl g0)))))) rfl)) ?_
                    refine l_step (y_load1 one_42 (et g0 rfl) (at1 (k3.cell (show _ = some (Value.slice lb xs.length ld) from rfl)))) ?_
                    refine l_step (y_moveV (et (gS rfl (gS rfl g0)) rfl)) ?_
                    obtain ⟨b2q, o2q, r2q, e2q, row2, len2q, vt2, vd2, hr2, ha2, hT2, hD2⟩ := (hL2.mono hL0).row hF (i := i) hil
                    rw [hr2] at row2 len2q
                    obtain ⟨ta2, tc2, rfl, ht2, hu2⟩ := hT2.val
                    obtain ⟨da2, dc2, rfl⟩ := hD2.sl
                    refine l_step (y_idxSa e2q Hvaa.underlying42 sz_131 (et (gS rfl g0) rfl) (et g0 rfl) ?_) ?_
                    omega
                    refine l_step (y_loadR agg_131 sz_131 (et g0 rfl) len22 (at1R row2)) ?_
                    refine l_eff (e_alloc zr_131) (fun v21 w21 h21 => ?_)
                    obtain ⟨b21, rfl, n21⟩ := h21
                    have d2_21 : b2 < b21 := Nat.lt_of_lt_of_le k2.lt n21.fresh
                    have d3_21 : b3 < b21 := Nat.lt_of_lt_of_le k3.lt n21.fresh
                    have d18_21 : b18 < b21 := Nat.lt_of_lt_of_le k18.lt n21.fresh
                    have f21 : w.heap.size ≤ b21 := Nat.le_trans U.size n21.fresh
                    have nb21 := hF.nb n21.fresh
                    have fV11_21 := Nat.le_trans V11.ch.size n21.fresh
                    replace G := G.tr (Go.ofUp hF n21.up)
                    replace V11 := V11.tr (Go.ofUp hF n21.up)
                    replace hF := hF.up n21.up
                    replace k2 := k2.up n21.up
                    replace k3 := k3.up n21.up
                    replace k18 := k18.up n21.up
                    replace U := U.tr n21.up
                    have k21 := n21.blk
                    obtain ⟨zs21, hz21, k21⟩ : ∃ cs : Array Value, cs.size = 22 ∧ Blk w21 b21 cs := ⟨_, rfl, k21⟩
                    refine l_effN (e_store sz_131 (et g0 rfl) (cellsV (et (gS rfl g0) rfl) rfl) len22 (by exact one_app (one_two rfl rfl)) k21 (by (rw [hz21]; exact Nat.le_refl _))) (fun v22 w22 h22 => ?_)
                    obtain ⟨rfl, x22⟩ := h22
                    replace k2 := k2.ch x22.ch (by omega)
                    replace k3 := k3.ch x22.ch (by omega)
                    replace k18 := k18.ch x22.ch (by omega)
                    replace k21 := x22.blk.full (by rw [len22, hz21])
                    replace G := G.wr x22 (by first | exact .inr f21 | exact .inl rfl | omega | (simp; omega)) nb21
                    replace V11 := V11.wr x22 (by first | exact .inr f21 | exact .inl rfl | omega | (simp; omega)) nb21
                    replace hF := G.fz
                    replace U := U.st x22 f21
                    refine l_nil ?_
                    refine hK20 _ _ ?_
                    refine fg8 2 3 5 17 18 19 7 8 (gS rfl (gS rfl (gS rfl (gS rfl (gS rfl (gS rfl (gS rfl (gS rfl (gS rfl (gS rfl (gS rfl (gS rfl (gS rfl g0))))))))))))) (gS rfl (gS rfl (gS rfl (gS rfl (gS rfl (gS rfl (gS rfl (gS rfl (gS rfl (gS rfl (gS rfl (gS rfl g0)))))))))))) (gS rfl (gS rfl (gS rfl (gS rfl (gS rfl (gS rfl (gS rfl (gS rfl (gS rfl (gS rfl (gS rfl g0))))))))))) (gS rfl (gS rfl (gS rfl (gS rfl (gS rfl (gS rfl (gS rfl (gS rfl (gS rfl (gS rfl g0)))))))))) (gS rfl (gS rfl (gS rfl (gS rfl (gS rfl (gS rfl (gS rfl (gS rfl (gS rfl g0))))))))) (gS rfl (gS rfl (gS rfl (gS rfl (gS rfl (gS rfl (gS rfl (gS rfl g0)))))))) (gS rfl (gS rfl (gS rfl (gS rfl (gS rfl (gS rfl (gS rfl g0))))))) g0 (fun g => ?_)
                    refine c_seq (fun K23 hK23 => ?_)
                    exact (by
                      refine c_draw Up 22 [(0, true), (1, true), (2, true), (3, true), (4, false), (5, true), (6, true), (7, true), (8, true), (9, true), (10, true), (11, false), (12, true), (13, true), (14, true), (15, true), (16, true), (17, true), (18, true), (19, false), (20, true), (21, true)] (by kernel_rfl) (fun w24 hu => ⟨Up.refl _, ?_⟩)
                      replace G := G.tr (Go.ofUp hF hu)
                      replace V11 := V11.tr (Go.ofUp hF hu)
                      replace hF := hF.up hu
                      replace k2 := k2.up hu
                      replace k3 := k3.up hu
                      replace k18 := k18.up hu
                      replace k21 := k21.up hu
                      replace U := U.tr hu
                      have SU := Up.refl w24
                      have k2_s := k2
                      have k3_s := k3
                      have k18_s := k18
                      have k21_s := k21
                      refine p_step (by exact rfl) (y_fld fld_131_0 (et (gS rfl g0) rfl)) ?_
                      refine p_step (by exact rfl) (y_slA000 Hvaa.underlying25 sz_5 (et g0 rfl) ) ?_
                      refine p_step (by exact rfl) (y_fld fld_131_0 (et (gS rfl (gS rfl g0)) rfl)) ?_
                      refine p_step (by exact rfl) (y_slA000 Hvaa.underlying25 sz_5 (et g0 rfl) ) ?_
                      refine p_eff (by exact rfl) (e_callV cal_40 (aC (et (gS rfl (gS rfl g0)) rfl) (aC (et g0 rfl) aN)) (law_eqSame _ (wv_row20 (k18.row (RowIn.app _ _))) (wv_row20 (k21.row (RowIn.app _ _))))) (fun v25 w25 h25 => ?_)
                      obtain ⟨rfl, u25⟩ := h25
                      replace G := G.tr (Go.ofUp hF u25)
                      replace V11 := V11.tr (Go.ofUp hF u25)
                      replace hF := hF.up u25
                      replace k2 := k2.up u25
                      replace k3 := k3.up u25
                      replace k18 := k18.up u25
                      replace k21 := k21.up u25
                      replace U := U.tr u25
                      refine ⟨.inr (SU.tr u25), ?_⟩
                      replace SU := SU.tr u25
                      refine p_step (by exact rfl) (y_not (et g0 rfl)) ?_
                      exact (by
                        refine p_step (by exact rfl) (y_moveV (et g0 rfl)) ?_
                        refine gsplitP (i := 35) g0 (fun q26 => ?_) (fun q26 => ?_)
                        · skip
                          cases q26
                        · skip
                          refine p_gstep (j := 6) (t := 35) (by exact rfl) (by exact rfl) (by exact rfl) (et g0 rfl) rfl (y_fld fld_131_1 (et (gS rfl (gS rfl (gS rfl (gS rfl (gS rfl (gS rfl (gS rfl (gS rfl (gS rfl g0))))))))) rfl)) ?_
                          refine p_gstep (j := 6) (t := 35) (by exact rfl) (by exact rfl) (by exact rfl) (et (gS rfl g0) rfl) rfl (y_load1 one_29 (et g0 rfl) (atS (k18_s.cell ((app20 (i := 0) rfl).trans rfl)))) ?_
                          refine p_gstep (j := 6) (t := 35) (by exact rfl) (by exact rfl) (by exact rfl) (et (gS rfl (gS rfl g0)) rfl) rfl (y_fld fld_131_1 (et (gS rfl (gS rfl (gS rfl (gS rfl (gS rfl (gS rfl (gS rfl (gS rfl (gS rfl (gS rfl g0)))))))))) rfl)) ?_
                          refine p_gstep (j := 6) (t := 35) (by exact rfl) (by exact rfl) (by exact rfl) (et (gS rfl (gS rfl (gS rfl g0))) rfl) rfl (y_load1 one_29 (et g0 rfl) (atS (k21_s.cell ((app20 (i := 0) rfl).trans rfl)))) ?_
                          refine p_geff (j := 6) (t := 35) (by exact rfl) (by exact rfl) (by exact rfl) (et (gS rfl (gS rfl (gS rfl (gS rfl g0)))) rfl) rfl (e_callV cal_41 (aC (et (gS rfl (gS rfl g0)) rfl) (aC (et g0 rfl) aN)) (law_wordsSame _ hF hT1 hT2 (by have := hlg _ (List.getElem_mem hil); omega))) (fun v27 w27 h27 => ?_)
                          obtain ⟨rfl, u27⟩ := h27
                          replace G := G.tr (Go.ofUp hF u27)
                          replace V11 := V11.tr (Go.ofUp hF u27)
                          replace hF := hF.up u27
                          replace k2 := k2.up u27
                          replace k3 := k3.up u27
                          replace k18 := k18.up u27
                          replace k21 := k21.up u27
                          replace U := U.tr u27
                          refine ⟨.inr (SU.tr u27), ?_⟩
                          replace SU := SU.tr u27
                          refine p_gstep (j := 6) (t := 35) (by exact rfl) (by exact rfl) (by exact rfl) (et (gS rfl (gS rfl (gS rfl (gS rfl (gS rfl g0))))) rfl) rfl (y_not (et g0 rfl)) ?_
                          refine p_step (by exact rfl) (y_pickF (et (gS rfl (gS rfl (gS rfl (gS rfl (gS rfl (gS rfl g0)))))) rfl) (et g0 rfl)) ?_
                          refine p_step (by exact rfl) (y_moveV (et g0 rfl)) ?_
                          refine gsplitP (i := 43) g0 (fun q28 => ?_) (fun q28 => ?_)
                          · skip
                            cases q28
                          · skip
                            refine p_gstep (j := 14) (t := 43) (by exact rfl) (by exact rfl) (by exact rfl) (et g0 rfl) rfl (y_fld fld_131_2 (et (gS rfl (gS rfl (gS rfl (gS rfl (gS rfl (gS rfl (gS rfl (gS rfl (gS rfl (gS rfl (gS rfl (gS rfl (gS rfl (gS rfl (gS rfl (gS rfl (gS rfl (gS rfl g0)))))))))))))))))) rfl)) ?_
                            refine p_gstep (j := 14) (t := 43) (by exact rfl) (by exact rfl) (by exact rfl) (et (gS rfl g0) rfl) rfl (y_load1 one_38 (et g0 rfl) (atS (k18_s.cell ((app20 (i := 1) rfl).trans rfl)))) ?_
                            refine p_gstep (j := 14) (t := 43) (by exact rfl) (by exact rfl) (by exact rfl) (et (gS rfl (gS rfl g0)) rfl) rfl (y_fld fld_131_2 (et (gS rfl (gS rfl (gS rfl (gS rfl (gS rfl (gS rfl (gS rfl (gS rfl (gS rfl (gS rfl (gS rfl (gS rfl (gS rfl (gS rfl (gS rfl (gS rfl (gS rfl (gS rfl (gS rfl g0))))))))))))))))))) rfl)) ?_
                            refine p_gstep (j := 14) (t := 43) (by exact rfl) (by exact rfl) (by exact rfl) (et (gS rfl (gS rfl (gS rfl g0))) rfl) rfl (y_load1 one_38 (et g0 rfl) (atS (k21_s.cell ((app20 (i := 1) rfl).trans rfl)))) ?_
                            refine p_geff (j := 14) (t := 43) (by exact rfl) (by exact rfl) (by exact rfl) (et (gS rfl (gS rfl (gS rfl (gS rfl g0)))) rfl) rfl (e_callV cal_40 (aC (et (gS rfl (gS rfl g0)) rfl) (aC (et g0 rfl) aN)) (law_eqSame _ (hD1.wv hF) (hD2.wv hF))) (fun v29 w29 h29 => ?_)
                            obtain ⟨rfl, u29⟩ := h29
                            replace G := G.tr (Go.ofUp hF u29)
                            replace V11 := V11.tr (Go.ofUp hF u29)
                            replace hF := hF.up u29
                            replace k2 := k2.up u29
                            replace k3 := k3.up u29
                            replace k18 := k18.up u29
                            replace k21 := k21.up u29
                            replace U := U.tr u29
                            refine ⟨.inr (SU.tr u29), ?_⟩
                            replace SU := SU.tr u29
                            refine p_gstep (j := 14) (t := 43) (by exact rfl) (by exact rfl) (by exact rfl) (et (gS rfl (gS rfl (gS rfl (gS rfl (gS rfl g0))))) rfl) rfl (y_not (et g0 rfl)) ?_
                            refine p_step (by exact rfl) (y_pickF (et (gS rfl (gS rfl (gS rfl (gS rfl (gS rfl (gS rfl g0)))))) rfl) (et g0 rfl)) ?_
                            refine p_nil ?_
                            refine hK23 _ _ ?_
                            refine fg7 2 3 5 17 18 19 50 (gS rfl (gS rfl (gS rfl (gS rfl (gS rfl (gS rfl (gS rfl (gS rfl (gS rfl (gS rfl (gS rfl (gS rfl (gS rfl (gS rfl (gS rfl (gS rfl (gS rfl (gS rfl (gS rfl (gS rfl (gS rfl (gS rfl (gS rfl (gS rfl (gS rfl (gS rfl (gS rfl (gS rfl (gS rfl (gS rfl (gS rfl g0))))))))))))))))))))))))))))))) (gS rfl (gS rfl (gS rfl (gS rfl (gS rfl (gS rfl (gS rfl (gS rfl (gS rfl (gS rfl (gS rfl (gS rfl (gS rfl (gS rfl (gS rfl (gS rfl (gS rfl (gS rfl (gS rfl (gS rfl (gS rfl (gS rfl (gS rfl (gS rfl (gS rfl (gS rfl (gS rfl (gS rfl (gS rfl (gS rfl g0)))))))))))))))))))))))))))))) (gS rfl (gS rfl (gS rfl (gS rfl (gS rfl (gS rfl (gS rfl (gS rfl (gS rfl (gS rfl (gS rfl (gS rfl (gS rfl (gS rfl (gS rfl (gS rfl (gS rfl (gS rfl (gS rfl (gS rfl (gS rfl (gS rfl (gS rfl (gS rfl (gS rfl (gS rfl (gS rfl (gS rfl (gS rfl g0))))))))))))))))))))))))))))) (gS rfl (gS rfl (gS rfl (gS rfl (gS rfl (gS rfl (gS rfl (gS rfl (gS rfl (gS rfl (gS rfl (gS rfl (gS rfl (gS rfl (gS rfl (gS rfl (gS rfl (gS rfl (gS rfl (gS rfl (gS rfl (gS rfl (gS rfl (gS rfl (gS rfl (gS rfl (gS rfl (gS rfl g0)))))))))))))))))))))))))))) (gS rfl (gS rfl (gS rfl (gS rfl (gS rfl (gS rfl (gS rfl (gS rfl (gS rfl (gS rfl (gS rfl (gS rfl (gS rfl (gS rfl (gS rfl (gS rfl (gS rfl (gS rfl (gS rfl (gS rfl (gS rfl (gS rfl (gS rfl (gS rfl (gS rfl (gS rfl (gS rfl g0))))))))))))))))))))))))))) (gS rfl (gS rfl (gS rfl (gS rfl (gS rfl (gS rfl (gS rfl (gS rfl (gS rfl (gS rfl (gS rfl (gS rfl (gS rfl (gS rfl (gS rfl (gS rfl (gS rfl (gS rfl (gS rfl (gS rfl (gS rfl (gS rfl (gS rfl (gS rfl (gS rfl (gS rfl g0)))))))))))))))))))))))))) g0 (fun g => ?_)
                            refine c_false (et g0 rfl) (by rfl) ?_
                            refine c_skip ?_
                            refine hQ16 _ _ _ (in_normal ?_)
                            refine hK15 _ _ ?_
                            refine fg6 2 3 5 17 18 19 (gS rfl (gS rfl (gS rfl (gS rfl (gS rfl (gS rfl g0)))))) (gS rfl (gS rfl (gS rfl (gS rfl (gS rfl g0))))) (gS rfl (gS rfl (gS rfl (gS rfl g0)))) (gS rfl (gS rfl (gS rfl g0))) (gS rfl (gS rfl g0)) (gS rfl g0) (fun g => ?_)
                            exact (by
                              refine c_region ?_
                              refine l_step (y_add (et g0 rfl) rfl (addIN (y := 1) ?_)) ?_
                              omega
                              refine l_step (y_moveV (et g0 rfl)) ?_
                              refine l_nil ?_
                              refine fK6 2 3 5 17 18 19 (gS rfl (gS rfl (gS rfl (gS rfl (gS rfl (gS rfl (gS rfl g0))))))) (gS rfl (gS rfl (gS rfl (gS rfl (gS rfl (gS rfl g0)))))) (gS rfl (gS rfl (gS rfl (gS rfl (gS rfl g0))))) (gS rfl (gS rfl (gS rfl (gS rfl g0)))) (gS rfl (gS rfl (gS rfl g0))) g0 (fun g => ?_)
                              exact hK11 (xs.length - ((i + 1))) _ _ (by omega) ⟨g, _, (i + 1), rfl, rfl, by omega, V11⟩)))))
              · skip
                
                refine c_exit ?_
                refine hQ10 _ _ _ (in_exit ?_)
                refine hK8 _ _ ?_
                refine fg3 2 3 5 (gS rfl (gS rfl (gS rfl (gS rfl (gS rfl (gS rfl g0)))))) (gS rfl (gS rfl (gS rfl (gS rfl (gS rfl g0))))) (gS rfl (gS rfl (gS rfl (gS rfl g0)))) (fun g => ?_)
                refine c_seq (fun K31 hK31 => ?_)
                exact (by
                  refine c_draw Up 38 [(0, true), (1, true), (2, true), (3, true), (4, true), (5, true), (6, true), (7, true), (8, true), (9, true), (10, true), (11, true), (12, true), (13, true), (14, true), (15, true), (16, true), (17, true), (18, true), (19, true), (20, true), (21, true), (22, true), (23, true), (24, true), (25, true), (26, true), (27, true), (28, false), (29, true), (30, true), (31, true), (32, true), (33, true), (34, true), (35, false), (36, true), (37, true)] (by kernel_rfl) (fun w32 hu => ⟨Up.refl _, ?_⟩)
                  replace G := G.tr (Go.ofUp hF hu)
                  replace hF := hF.up hu
                  replace k2 := k2.up hu
                  replace k3 := k3.up hu
                  replace U := U.tr hu
                  have SU := Up.refl w32
                  refine p_step (by exact rfl) (y_moveV (et g0 rfl)) ?_
                  refine p_step (by exact rfl) (y_eql (et g0 rfl) rfl) ?_
                  refine p_step (by exact rfl) (y_moveV (et g0 rfl)) ?_
                  refine gsplitP (i := 56) g0 (fun q33 => ?_) (fun q33 => ?_)
                  · skip
                    refine p_gstep (j := 2) (t := 56) (by exact rfl) (by exact rfl) (by exact rfl) (et g0 rfl) rfl (y_fld fld_44_0 (et (gS rfl (gS rfl (gS rfl (gS rfl (gS rfl (gS rfl g0)))))) rfl)) ?_
                    refine p_gstep (j := 2) (t := 56) (by exact rfl) (by exact rfl) (by exact rfl) (et (gS rfl g0) rfl) rfl (y_load1 one_5 (et g0 rfl) (atS (k2.cell (show _ = some (Value.int .u8 (ver : Nat)) from rfl)))) ?_
                    refine p_gstep (j := 2) (t := 56) (by exact rfl) (by exact rfl) (by exact rfl) (et (gS rfl (gS rfl g0)) rfl) rfl (y_fld fld_44_0 (et (gS rfl (gS rfl (gS rfl (gS rfl (gS rfl (gS rfl (gS rfl g0))))))) rfl)) ?_
                    refine p_gstep (j := 2) (t := 56) (by exact rfl) (by exact rfl) (by exact rfl) (et (gS rfl (gS rfl (gS rfl g0))) rfl) rfl (y_load1 one_5 (et g0 rfl) (atS (k3.cell (show _ = some (Value.int .u8 (ver : Nat)) from rfl)))) ?_
                    refine p_gstep (j := 2) (t := 56) (by exact rfl) (by exact rfl) (by exact rfl) (et (gS rfl (gS rfl (gS rfl (gS rfl g0)))) rfl) rfl (y_eql (et (gS rfl (gS rfl g0)) rfl) (et g0 rfl)) ?_
                    refine p_step (by exact rfl) (y_pickT (et (gS rfl (gS rfl (gS rfl (gS rfl (gS rfl g0))))) rfl) (et g0 rfl)) ?_
                    refine p_step (by exact rfl) (y_moveV (et g0 rfl)) ?_
                    refine gsplitP (i := 63) g0 (fun q34 => ?_) (fun q34 => ?_)
                    · skip
                      refine p_gstep (j := 9) (t := 63) (by exact rfl) (by exact rfl) (by exact rfl) (et g0 rfl) rfl (y_fld fld_44_1 (et (gS rfl (gS rfl (gS rfl (gS rfl (gS rfl (gS rfl (gS rfl (gS rfl (gS rfl (gS rfl (gS rfl (gS rfl (gS rfl (gS rfl g0)))))))))))))) rfl)) ?_
                      refine p_gstep (j := 9) (t := 63) (by exact rfl) (by exact rfl) (by exact rfl) (et (gS rfl g0) rfl) rfl (y_load1 one_5 (et g0 rfl) (atS (k2.cell (show _ = some (Value.int .u8 (sts : Nat)) from rfl)))) ?_
                      refine p_gstep (j := 9) (t := 63) (by exact rfl) (by exact rfl) (by exact rfl) (et (gS rfl (gS rfl g0)) rfl) rfl (y_fld fld_44_1 (et (gS rfl (gS rfl (gS rfl (gS rfl (gS rfl (gS rfl (gS rfl (gS rfl (gS rfl (gS rfl (gS rfl (gS rfl (gS rfl (gS rfl (gS rfl g0))))))))))))))) rfl)) ?_
                      refine p_gstep (j := 9) (t := 63) (by exact rfl) (by exact rfl) (by exact rfl) (et (gS rfl (gS rfl (gS rfl g0))) rfl) rfl (y_load1 one_5 (et g0 rfl) (atS (k3.cell (show _ = some (Value.int .u8 (sts : Nat)) from rfl)))) ?_
                      refine p_gstep (j := 9) (t := 63) (by exact rfl) (by exact rfl) (by exact rfl) (et (gS rfl (gS rfl (gS rfl (gS rfl g0)))) rfl) rfl (y_eql (et (gS rfl (gS rfl g0)) rfl) (et g0 rfl)) ?_
                      refine p_step (by exact rfl) (y_pickT (et (gS rfl (gS rfl (gS rfl (gS rfl (gS rfl g0))))) rfl) (et g0 rfl)) ?_
                      refine p_step (by exact rfl) (y_moveV (et g0 rfl)) ?_
                      refine gsplitP (i := 70) g0 (fun q35 => ?_) (fun q35 => ?_)
                      · skip
                        refine p_gstep (j := 16) (t := 70) (by exact rfl) (by exact rfl) (by exact rfl) (et g0 rfl) rfl (y_fld fld_44_2 (et (gS rfl (gS rfl (gS rfl (gS rfl (gS rfl (gS rfl (gS rfl (gS rfl (gS rfl (gS rfl (gS rfl (gS rfl (gS rfl (gS rfl (gS rfl (gS rfl (gS rfl (gS rfl (gS rfl (gS rfl (gS rfl (gS rfl g0)))))))))))))))))))))) rfl)) ?_
                        refine p_gstep (j := 16) (t := 70) (by exact rfl) (by exact rfl) (by exact rfl) (et (gS rfl g0) rfl) rfl (y_load1 one_26 (et g0 rfl) (atS (k2.cell (show _ = some (Value.int .u64 (used : Nat)) from rfl)))) ?_
                        refine p_gstep (j := 16) (t := 70) (by exact rfl) (by exact rfl) (by exact rfl) (et (gS rfl (gS rfl g0)) rfl) rfl (y_fld fld_44_2 (et (gS rfl (gS rfl (gS rfl (gS rfl (gS rfl (gS rfl (gS rfl (gS rfl (gS rfl (gS rfl (gS rfl (gS rfl (gS rfl (gS rfl (gS rfl (gS rfl (gS rfl (gS rfl (gS rfl (gS rfl (gS rfl (gS rfl (gS rfl g0))))))))))))))))))))))) rfl)) ?_
                        refine p_gstep (j := 16) (t := 70) (by exact rfl) (by exact rfl) (by exact rfl) (et (gS rfl (gS rfl (gS rfl g0))) rfl) rfl (y_load1 one_26 (et g0 rfl) (atS (k3.cell (show _ = some (Value.int .u64 (used : Nat)) from rfl)))) ?_
                        refine p_gstep (j := 16) (t := 70) (by exact rfl) (by exact rfl) (by exact rfl) (et (gS rfl (gS rfl (gS rfl (gS rfl g0)))) rfl) rfl (y_eql (et (gS rfl (gS rfl g0)) rfl) (et g0 rfl)) ?_
                        refine p_step (by exact rfl) (y_pickT (et (gS rfl (gS rfl (gS rfl (gS rfl (gS rfl g0))))) rfl) (et g0 rfl)) ?_
                        refine p_step (by exact rfl) (y_moveV (et g0 rfl)) ?_
                        refine gsplitP (i := 77) g0 (fun q36 => ?_) (fun q36 => ?_)
                        · skip
                          refine p_gstep (j := 23) (t := 77) (by exact rfl) (by exact rfl) (by exact rfl) (et g0 rfl) rfl (y_fld fld_44_3 (et (gS rfl (gS rfl (gS rfl (gS rfl (gS rfl (gS rfl (gS rfl (gS rfl (gS rfl (gS rfl (gS rfl (gS rfl (gS rfl (gS rfl (gS rfl (gS rfl (gS rfl (gS rfl (gS rfl (gS rfl (gS rfl (gS rfl (gS rfl (gS rfl (gS rfl (gS rfl (gS rfl (gS rfl (gS rfl (gS rfl g0)))))))))))))))))))))))))))))) rfl)) ?_
                          refine p_gstep (j := 23) (t := 77) (by exact rfl) (by exact rfl) (by exact rfl) (et (gS rfl g0) rfl) rfl (y_load1 one_38 (et g0 rfl) (atS (k2.cell (show _ = some (Value.slice oa out.length oc) from rfl)))) ?_
                          refine p_gstep (j := 23) (t := 77) (by exact rfl) (by exact rfl) (by exact rfl) (et (gS rfl (gS rfl g0)) rfl) rfl (y_fld fld_44_3 (et (gS rfl (gS rfl (gS rfl (gS rfl (gS rfl (gS rfl (gS rfl (gS rfl (gS rfl (gS rfl (gS rfl (gS rfl (gS rfl (gS rfl (gS rfl (gS rfl (gS rfl (gS rfl (gS rfl (gS rfl (gS rfl (gS rfl (gS rfl (gS rfl (gS rfl (gS rfl (gS rfl (gS rfl (gS rfl (gS rfl (gS rfl g0))))))))))))))))))))))))))))))) rfl)) ?_
                          refine p_gstep (j := 23) (t := 77) (by exact rfl) (by exact rfl) (by exact rfl) (et (gS rfl (gS rfl (gS rfl g0))) rfl) rfl (y_load1 one_38 (et g0 rfl) (atS (k3.cell (show _ = some (Value.slice ob out.length od) from rfl)))) ?_
                          refine p_geff (j := 23) (t := 77) (by exact rfl) (by exact rfl) (by exact rfl) (et (gS rfl (gS rfl (gS rfl (gS rfl g0)))) rfl) rfl (e_callV cal_40 (aC (et (gS rfl (gS rfl g0)) rfl) (aC (et g0 rfl) aN)) (law_eqSame _ ((hO1.mono hL0).wv hF) ((hO2.mono hL0).wv hF))) (fun v37 w37 h37 => ?_)
                          obtain ⟨rfl, u37⟩ := h37
                          replace G := G.tr (Go.ofUp hF u37)
                          replace hF := hF.up u37
                          replace k2 := k2.up u37
                          replace k3 := k3.up u37
                          replace U := U.tr u37
                          refine ⟨.inr (SU.tr u37), ?_⟩
                          replace SU := SU.tr u37
                          refine p_step (by exact rfl) (y_pickT (et (gS rfl (gS rfl (gS rfl (gS rfl (gS rfl g0))))) rfl) (et g0 rfl)) ?_
                          refine p_step (by exact rfl) (y_moveV (et g0 rfl)) ?_
                          refine gsplitP (i := 84) g0 (fun q38 => ?_) (fun q38 => ?_)
                          · skip
                            refine p_gstep (j := 30) (t := 84) (by exact rfl) (by exact rfl) (by exact rfl) (et g0 rfl) rfl (y_fld fld_44_5 (et (gS rfl (gS rfl (gS rfl (gS rfl (gS rfl (gS rfl (gS rfl (gS rfl (gS rfl (gS rfl (gS rfl (gS rfl (gS rfl (gS rfl (gS rfl (gS rfl (gS rfl (gS rfl (gS rfl (gS rfl (gS rfl (gS rfl (gS rfl (gS rfl (gS rfl (gS rfl (gS rfl (gS rfl (gS rfl (gS rfl (gS rfl (gS rfl (gS rfl (gS rfl (gS rfl (gS rfl (gS rfl (gS rfl g0)))))))))))))))))))))))))))))))))))))) rfl)) ?_
                            refine p_gstep (j := 30) (t := 84) (by exact rfl) (by exact rfl) (by exact rfl) (et (gS rfl g0) rfl) rfl (y_slA000 Hvaa.underlying25 sz_5 (et g0 rfl) ) ?_
                            refine p_gstep (j := 30) (t := 84) (by exact rfl) (by exact rfl) (by exact rfl) (et (gS rfl (gS rfl g0)) rfl) rfl (y_fld fld_44_5 (et (gS rfl (gS rfl (gS rfl (gS rfl (gS rfl (gS rfl (gS rfl (gS rfl (gS rfl (gS rfl (gS rfl (gS rfl (gS rfl (gS rfl (gS rfl (gS rfl (gS rfl (gS rfl (gS rfl (gS rfl (gS rfl (gS rfl (gS rfl (gS rfl (gS rfl (gS rfl (gS rfl (gS rfl (gS rfl (gS rfl (gS rfl (gS rfl (gS rfl (gS rfl (gS rfl (gS rfl (gS rfl (gS rfl (gS rfl g0))))))))))))))))))))))))))))))))))))))) rfl)) ?_
                            refine p_gstep (j := 30) (t := 84) (by exact rfl) (by exact rfl) (by exact rfl) (et (gS rfl (gS rfl (gS rfl g0))) rfl) rfl (y_slA000 Hvaa.underlying25 sz_5 (et g0 rfl) ) ?_
                            refine p_geff (j := 30) (t := 84) (by exact rfl) (by exact rfl) (by exact rfl) (et (gS rfl (gS rfl (gS rfl (gS rfl g0)))) rfl) rfl (e_callV cal_40 (aC (et (gS rfl (gS rfl g0)) rfl) (aC (et g0 rfl) aN)) (law_eqSame _ (wv_row20 (k2.row (rcC_made _ _ _ _ _ _))) (wv_row20 (k3.row (rcC_made _ _ _ _ _ _))))) (fun v39 w39 h39 => ?_)
                            obtain ⟨rfl, u39⟩ := h39
                            replace G := G.tr (Go.ofUp hF u39)
                            replace hF := hF.up u39
                            replace k2 := k2.up u39
                            replace k3 := k3.up u39
                            replace U := U.tr u39
                            refine ⟨.inr (SU.tr u39), ?_⟩
                            replace SU := SU.tr u39
                            refine p_step (by exact rfl) (y_pickT (et (gS rfl (gS rfl (gS rfl (gS rfl (gS rfl g0))))) rfl) (et g0 rfl)) ?_
                            refine p_step (by exact rfl) (y_assignV (et g0 rfl)) ?_
                            refine p_nil ?_
                            refine hK31 _ _ ?_
                            refine fg1 4 g0 (fun g => ?_)
                            refine c_ret ?_
                            repeat with_reducible refine then_ret ?_
                            refine ret1 rfl (res_tmp (et g0 rfl)) ?_
                            exact ⟨rfl, U⟩
                          · skip
                            cases q38
                        · skip
                          exact absurd q36 (by simp)
                      · skip
                        exact absurd q35 (by simp)
                    · skip
                      exact absurd q34 (by simp)
                  · skip
                    exact absurd q33 (by decide)))))))
theorem law_worldsMeet {w : World} {H : Store} (hF : Fz w H) {wa wb : Option Addr} {wc wd : Nat} {xs : List YAcct} (hL1 : LV P_oacct 55 H (.slice wa xs.length wc) xs) (hL2 : LV P_oacct 55 H (.slice wb xs.length wd) xs) (hln : xs.length < 9223372036854775808) (hls : ∀ x ∈ xs, x.slots.length < 9223372036854775807) :
    Ret 18 [.slice wa xs.length wc, .slice wb xs.length wd] w (fun v w' => v = .bool true ∧ Up w w') := by
  refine enter (n := 92) Hvaa.func18 rfl rfl (Nat.le_of_ble_eq_true rfl) ?_
  have U := Up.refl w
  have G : Go (No) w H w H := Go.refl hF
  have hL0 : Le H H := Le.refl H
  refine c_seq (fun K1 hK1 => ?_)
  exact (by
    refine c_region ?_
    refine l_step y_assignC ?_
    refine l_nil ?_
    refine hK1 _ _ ?_
    refine fg2 1 0 (gS rfl (gS rfl g0)) (gS rfl g0) (fun g => ?_)
    refine c_seq (fun K2 hK2 => ?_)
    refine c_seq (fun K3 hK3 => ?_)
    exact (by
      refine c_region ?_
      refine l_step (y_moveV (et g0 rfl)) ?_
      refine l_step (y_len Hvaa.underlying23 (et g0 rfl)) ?_
      refine l_step (y_moveV (et (gS rfl (gS rfl (gS rfl g0))) rfl)) ?_
      refine l_step (y_len Hvaa.underlying23 (et g0 rfl)) ?_
      refine l_step (y_neq (et (gS rfl (gS rfl g0)) rfl) (et g0 rfl)) ?_
      refine l_nil ?_
      refine hK3 _ _ ?_
      refine fg3 1 0 15 (gS rfl (gS rfl (gS rfl (gS rfl (gS rfl (gS rfl g0)))))) (gS rfl (gS rfl (gS rfl (gS rfl (gS rfl g0))))) g0 (fun g => ?_)
      refine c_false (et g0 rfl) (by (exact decide_eq_false (fun h => h rfl))) ?_
      refine c_skip ?_
      refine hK2 _ _ ?_
      refine fg2 1 0 (gS rfl (gS rfl g0)) (gS rfl g0) (fun g => ?_)
      refine c_seq (fun K5 hK5 => ?_)
      refine c_seq (fun K6 hK6 => ?_)
      exact (by
        refine c_region ?_
        refine l_step (y_moveV (et g0 rfl)) ?_
        refine l_step (y_len Hvaa.underlying23 (et g0 rfl)) ?_
        refine l_step y_moveC ?_
        refine l_nil ?_
        refine hK6 _ _ ?_
        refine fg4 1 16 17 18 (gS rfl (gS rfl (gS rfl (gS rfl g0)))) (gS rfl (gS rfl g0)) (gS rfl g0) g0 (fun g => ?_)
        refine c_block (fun Q7 hQ7 => ?_)
        refine fg4 1 16 17 18 (gS rfl (gS rfl (gS rfl g0))) (gS rfl (gS rfl g0)) (gS rfl g0) g0 (fun g => ?_)
        refine c_loop (fun k_ s_ W8 => ∃ (g : Nat → Value) (Hk8 : Store) (i : Nat), s_ = (upd (upd (upd (upd g 1 (.slice wb xs.length wd)) 16 (.slice wa xs.length wc)) 17 (.int .i64 (xs.length : Nat))) 18 (.int .i64 (i : Nat))) ∧ xs.length - i = k_ ∧ (i ≤ xs.length) ∧ Go (fun k => False) w H W8 Hk8) (xs.length - (0)) ?_ ?_
        · exact ⟨g, _, 0, rfl, rfl, Nat.zero_le _, Go.refl hF⟩
        · skip
          intro k_ s_ W8 hI K8 hK8
          obtain ⟨g, Hk8, i, rfl, rfl, hi, V8⟩ := hI
          have hle8 := V8.le
          replace hL0 := hL0.trans hle8
          replace G := G.trans V8 (by intro b hb; first | exact hb.elim | omega | (simp at hb ⊢; omega))
          replace hF := V8.fz
          replace U := U.cc V8.ch (by intro b hb; first | exact hb.elim | omega | (simp at hb ⊢; omega))
          refine c_seq (fun K9 hK9 => ?_)
          exact (by
            refine c_region ?_
            refine l_step (y_lss (et g0 rfl) (et (gS rfl g0) rfl)) ?_
            refine l_nil ?_
            refine hK9 _ _ ?_
            refine c_seq (fun K10 hK10 => ?_)
            refine c_cond (et g0 rfl) (fun cB2 => ?_) (fun cB2 => ?_)
            · skip
              
              have hil : i < xs.length := by have := of_decide_eq_true cB2; omega
              refine c_skip ?_
              refine hK10 _ _ ?_
              refine fg4 1 16 17 18 (gS rfl (gS rfl (gS rfl (gS rfl g0)))) (gS rfl (gS rfl (gS rfl g0))) (gS rfl (gS rfl g0)) (gS rfl g0) (fun g => ?_)
              refine c_seq (fun K12 hK12 => ?_)
              refine c_block (fun Q13 hQ13 => ?_)
              refine c_seq (fun K14 hK14 => ?_)
              exact (by
                refine c_region ?_
                refine l_step (y_moveV (et g0 rfl)) ?_
                obtain ⟨b1q, o1q, r1q, e1q, row1, len1q, vc1, vs1, hr1, ha1, hC1, hS1, hn1, hb1⟩ := (hL1.mono hL0).row hF (i := i) hil
                rw [hr1] at row1 len1q
                obtain ⟨sa1, sc1, rfl, ht1, hu1⟩ := hS1.val
                obtain ⟨ca1, cc1, rfl⟩ := hC1.sl
                refine l_step (y_idxSa e1q Hvaa.underlying23 sz_113 (et (gS rfl (gS rfl (gS rfl g0))) rfl) (et (gS rfl g0) rfl) ?_) ?_
                omega
                refine l_step (y_loadR agg_113 sz_113 (et g0 rfl) oaC_len (at1R row1)) ?_
                refine l_eff (e_alloc zr_113) (fun v15 w15 h15 => ?_)
                obtain ⟨b15, rfl, n15⟩ := h15
                have f15 : w.heap.size ≤ b15 := Nat.le_trans U.size n15.fresh
                have nb15 := hF.nb n15.fresh
                have fV8_15 := Nat.le_trans V8.ch.size n15.fresh
                replace G := G.tr (Go.ofUp hF n15.up)
                replace V8 := V8.tr (Go.ofUp hF n15.up)
                replace hF := hF.up n15.up
                replace U := U.tr n15.up
                have k15 := n15.blk
                obtain ⟨zs15, hz15, k15⟩ : ∃ cs : Array Value, cs.size = 55 ∧ Blk w15 b15 cs := ⟨_, rfl, k15⟩
                refine l_step (y_assignV (et (gS rfl (gS rfl (gS rfl g0))) rfl)) ?_
                refine l_effN (e_store sz_113 (et (gS rfl g0) rfl) (cellsV (et (gS rfl (gS rfl g0)) rfl) rfl) oaC_len (by exact oaC_one rfl rfl) k15 (by (rw [hz15]; exact Nat.le_refl _))) (fun v16 w16 h16 => ?_)
                obtain ⟨rfl, x16⟩ := h16
                replace k15 := x16.blk.full (by rw [oaC_len, hz15])
                replace G := G.wr x16 (by first | exact .inr f15 | exact .inl rfl | omega | (simp; omega)) nb15
                replace V8 := V8.wr x16 (by first | exact .inr f15 | exact .inl rfl | omega | (simp; omega)) nb15
                replace hF := G.fz
                replace U := U.st x16 f15
                refine l_nil ?_
                refine hK14 _ _ ?_
                refine fg6 1 16 17 18 6 5 (gS rfl (gS rfl (gS rfl (gS rfl (gS rfl (gS rfl (gS rfl (gS rfl g0)))))))) (gS rfl (gS rfl (gS rfl (gS rfl (gS rfl (gS rfl (gS rfl g0))))))) (gS rfl (gS rfl (gS rfl (gS rfl (gS rfl (gS rfl g0)))))) (gS rfl (gS rfl (gS rfl (gS rfl (gS rfl g0))))) (gS rfl g0) g0 (fun g => ?_)
                refine c_seq (fun K17 hK17 => ?_)
                exact (by
                  refine c_region ?_
                  refine l_step (y_moveV (et (gS rfl (gS rfl (gS rfl (gS rfl (gS rfl g0))))) rfl)) ?_
                  refine l_step (y_moveV (et (gS rfl g0) rfl)) ?_
                  obtain ⟨b2q, o2q, r2q, e2q, row2, len2q, vc2, vs2, hr2, ha2, hC2, hS2, hn2, hb2⟩ := (hL2.mono hL0).row hF (i := i) hil
                  rw [hr2] at row2 len2q
                  obtain ⟨sa2, sc2, rfl, ht2, hu2⟩ := hS2.val
                  obtain ⟨ca2, cc2, rfl⟩ := hC2.sl
                  refine l_step (y_idxSa e2q Hvaa.underlying23 sz_113 (et (gS rfl g0) rfl) (et g0 rfl) ?_) ?_
                  omega
                  refine l_step (y_loadR agg_113 sz_113 (et g0 rfl) oaC_len (at1R row2)) ?_
                  refine l_eff (e_alloc zr_113) (fun v18 w18 h18 => ?_)
                  obtain ⟨b18, rfl, n18⟩ := h18
                  have d15_18 : b15 < b18 := Nat.lt_of_lt_of_le k15.lt n18.fresh
                  have f18 : w.heap.size ≤ b18 := Nat.le_trans U.size n18.fresh
                  have nb18 := hF.nb n18.fresh
                  have fV8_18 := Nat.le_trans V8.ch.size n18.fresh
                  replace G := G.tr (Go.ofUp hF n18.up)
                  replace V8 := V8.tr (Go.ofUp hF n18.up)
                  replace hF := hF.up n18.up
                  replace k15 := k15.up n18.up
                  replace U := U.tr n18.up
                  have k18 := n18.blk
                  obtain ⟨zs18, hz18, k18⟩ : ∃ cs : Array Value, cs.size = 55 ∧ Blk w18 b18 cs := ⟨_, rfl, k18⟩
                  refine l_effN (e_store sz_113 (et g0 rfl) (cellsV (et (gS rfl g0) rfl) rfl) oaC_len (by exact oaC_one rfl rfl) k18 (by (rw [hz18]; exact Nat.le_refl _))) (fun v19 w19 h19 => ?_)
                  obtain ⟨rfl, x19⟩ := h19
                  replace k15 := k15.ch x19.ch (by omega)
                  replace k18 := x19.blk.full (by rw [oaC_len, hz18])
                  replace G := G.wr x19 (by first | exact .inr f18 | exact .inl rfl | omega | (simp; omega)) nb18
                  replace V8 := V8.wr x19 (by first | exact .inr f18 | exact .inl rfl | omega | (simp; omega)) nb18
                  replace hF := G.fz
                  replace U := U.st x19 f18
                  refine l_nil ?_
                  refine hK17 _ _ ?_
                  refine fg6 1 16 17 18 6 7 (gS rfl (gS rfl (gS rfl (gS rfl (gS rfl (gS rfl (gS rfl (gS rfl (gS rfl (gS rfl g0)))))))))) (gS rfl (gS rfl (gS rfl (gS rfl (gS rfl (gS rfl (gS rfl (gS rfl (gS rfl g0))))))))) (gS rfl (gS rfl (gS rfl (gS rfl (gS rfl (gS rfl (gS rfl (gS rfl g0)))))))) (gS rfl (gS rfl (gS rfl (gS rfl (gS rfl (gS rfl (gS rfl g0))))))) (gS rfl (gS rfl (gS rfl (gS rfl (gS rfl (gS rfl g0)))))) g0 (fun g => ?_)
                  refine c_seq (fun K20 hK20 => ?_)
                  refine c_seq (fun K21 hK21 => ?_)
                  exact (by
                    refine c_draw Up 21 [(0, true), (1, true), (2, true), (3, true), (4, false), (5, true), (6, true), (7, true), (8, true), (9, true), (10, true), (11, true), (12, true), (13, true), (14, true), (15, true), (16, true), (17, true), (18, false), (19, true), (20, true)] (by kernel_rfl) (fun w22 hu => ⟨Up.refl _, ?_⟩)
                    replace G := G.tr (Go.ofUp hF hu)
                    replace V8 := V8.tr (Go.ofUp hF hu)
                    replace hF := hF.up hu
                    replace k15 := k15.up hu
                    replace k18 := k18.up hu
                    replace U := U.tr hu
                    have SU := Up.refl w22
                    have k15_s := k15
                    have k18_s := k18
                    refine p_step (by exact rfl) (y_fld fld_113_0 (et (gS rfl g0) rfl)) ?_
                    refine p_step (by exact rfl) (y_slA000 Hvaa.underlying25 sz_5 (et g0 rfl) ) ?_
                    refine p_step (by exact rfl) (y_fld fld_113_0 (et (gS rfl (gS rfl g0)) rfl)) ?_
                    refine p_step (by exact rfl) (y_slA000 Hvaa.underlying25 sz_5 (et g0 rfl) ) ?_
                    refine p_eff (by exact rfl) (e_callV cal_40 (aC (et (gS rfl (gS rfl g0)) rfl) (aC (et g0 rfl) aN)) (law_eqSame _ (wv_row20 (k15.row oaC_adr)) (wv_row20 (k18.row oaC_adr)))) (fun v23 w23 h23 => ?_)
                    obtain ⟨rfl, u23⟩ := h23
                    replace G := G.tr (Go.ofUp hF u23)
                    replace V8 := V8.tr (Go.ofUp hF u23)
                    replace hF := hF.up u23
                    replace k15 := k15.up u23
                    replace k18 := k18.up u23
                    replace U := U.tr u23
                    refine ⟨.inr (SU.tr u23), ?_⟩
                    replace SU := SU.tr u23
                    refine p_step (by exact rfl) (y_not (et g0 rfl)) ?_
                    refine p_step (by exact rfl) (y_moveV (et g0 rfl)) ?_
                    refine gsplitP (i := 33) g0 (fun q24 => ?_) (fun q24 => ?_)
                    · skip
                      cases q24
                    · skip
                      refine p_gstep (j := 6) (t := 33) (by exact rfl) (by exact rfl) (by exact rfl) (et g0 rfl) rfl (y_fld fld_113_1 (et (gS rfl (gS rfl (gS rfl (gS rfl (gS rfl (gS rfl (gS rfl (gS rfl (gS rfl g0))))))))) rfl)) ?_
                      refine p_gstep (j := 6) (t := 33) (by exact rfl) (by exact rfl) (by exact rfl) (et (gS rfl g0) rfl) rfl (y_load1 one_26 (et g0 rfl) (atS (k15_s.cell oaC_non))) ?_
                      refine p_gstep (j := 6) (t := 33) (by exact rfl) (by exact rfl) (by exact rfl) (et (gS rfl (gS rfl g0)) rfl) rfl (y_fld fld_113_1 (et (gS rfl (gS rfl (gS rfl (gS rfl (gS rfl (gS rfl (gS rfl (gS rfl (gS rfl (gS rfl g0)))))))))) rfl)) ?_
                      refine p_gstep (j := 6) (t := 33) (by exact rfl) (by exact rfl) (by exact rfl) (et (gS rfl (gS rfl (gS rfl g0))) rfl) rfl (y_load1 one_26 (et g0 rfl) (atS (k18_s.cell oaC_non))) ?_
                      refine p_gstep (j := 6) (t := 33) (by exact rfl) (by exact rfl) (by exact rfl) (et (gS rfl (gS rfl (gS rfl (gS rfl g0)))) rfl) rfl (y_neq (et (gS rfl (gS rfl g0)) rfl) (et g0 rfl)) ?_
                      refine p_step (by exact rfl) (y_pickF (et (gS rfl (gS rfl (gS rfl (gS rfl (gS rfl g0))))) rfl) (et g0 rfl)) ?_
                      refine p_step (by exact rfl) (y_moveV (et g0 rfl)) ?_
                      refine gsplitP (i := 40) g0 (fun q25 => ?_) (fun q25 => ?_)
                      · skip
                        exact absurd q25 (by simp)
                      · skip
                        refine p_gstep (j := 13) (t := 40) (by exact rfl) (by exact rfl) (by exact rfl) (et g0 rfl) rfl (y_fld fld_113_2 (et (gS rfl (gS rfl (gS rfl (gS rfl (gS rfl (gS rfl (gS rfl (gS rfl (gS rfl (gS rfl (gS rfl (gS rfl (gS rfl (gS rfl (gS rfl (gS rfl (gS rfl g0))))))))))))))))) rfl)) ?_
                        refine p_gstep (j := 13) (t := 40) (by exact rfl) (by exact rfl) (by exact rfl) (et (gS rfl g0) rfl) rfl (y_slA000 Hvaa.underlying28 sz_5 (et g0 rfl) ) ?_
                        refine p_gstep (j := 13) (t := 40) (by exact rfl) (by exact rfl) (by exact rfl) (et (gS rfl (gS rfl g0)) rfl) rfl (y_fld fld_113_2 (et (gS rfl (gS rfl (gS rfl (gS rfl (gS rfl (gS rfl (gS rfl (gS rfl (gS rfl (gS rfl (gS rfl (gS rfl (gS rfl (gS rfl (gS rfl (gS rfl (gS rfl (gS rfl g0)))))))))))))))))) rfl)) ?_
                        refine p_gstep (j := 13) (t := 40) (by exact rfl) (by exact rfl) (by exact rfl) (et (gS rfl (gS rfl (gS rfl g0))) rfl) rfl (y_slA000 Hvaa.underlying28 sz_5 (et g0 rfl) ) ?_
                        refine p_geff (j := 13) (t := 40) (by exact rfl) (by exact rfl) (by exact rfl) (et (gS rfl (gS rfl (gS rfl (gS rfl g0)))) rfl) rfl (e_callV cal_40 (aC (et (gS rfl (gS rfl g0)) rfl) (aC (et g0 rfl) aN)) (law_eqSame _ (wv_row32 (k15.row oaC_bal)) (wv_row32 (k18.row oaC_bal)))) (fun v26 w26 h26 => ?_)
                        obtain ⟨rfl, u26⟩ := h26
                        replace G := G.tr (Go.ofUp hF u26)
                        replace V8 := V8.tr (Go.ofUp hF u26)
                        replace hF := hF.up u26
                        replace k15 := k15.up u26
                        replace k18 := k18.up u26
                        replace U := U.tr u26
                        refine ⟨.inr (SU.tr u26), ?_⟩
                        replace SU := SU.tr u26
                        refine p_gstep (j := 13) (t := 40) (by exact rfl) (by exact rfl) (by exact rfl) (et (gS rfl (gS rfl (gS rfl (gS rfl (gS rfl g0))))) rfl) rfl (y_not (et g0 rfl)) ?_
                        refine p_step (by exact rfl) (y_pickF (et (gS rfl (gS rfl (gS rfl (gS rfl (gS rfl (gS rfl g0)))))) rfl) (et g0 rfl)) ?_
                        refine p_nil ?_
                        refine hK21 _ _ ?_
                        refine fg7 1 16 17 18 6 7 47 (gS rfl (gS rfl (gS rfl (gS rfl (gS rfl (gS rfl (gS rfl (gS rfl (gS rfl (gS rfl (gS rfl (gS rfl (gS rfl (gS rfl (gS rfl (gS rfl (gS rfl (gS rfl (gS rfl (gS rfl (gS rfl (gS rfl (gS rfl (gS rfl (gS rfl (gS rfl (gS rfl (gS rfl g0)))))))))))))))))))))))))))) (gS rfl (gS rfl (gS rfl (gS rfl (gS rfl (gS rfl (gS rfl (gS rfl (gS rfl (gS rfl (gS rfl (gS rfl (gS rfl (gS rfl (gS rfl (gS rfl (gS rfl (gS rfl (gS rfl (gS rfl (gS rfl (gS rfl (gS rfl (gS rfl (gS rfl (gS rfl (gS rfl g0))))))))))))))))))))))))))) (gS rfl (gS rfl (gS rfl (gS rfl (gS rfl (gS rfl (gS rfl (gS rfl (gS rfl (gS rfl (gS rfl (gS rfl (gS rfl (gS rfl (gS rfl (gS rfl (gS rfl (gS rfl (gS rfl (gS rfl (gS rfl (gS rfl (gS rfl (gS rfl (gS rfl (gS rfl g0)))))))))))))))))))))))))) (gS rfl (gS rfl (gS rfl (gS rfl (gS rfl (gS rfl (gS rfl (gS rfl (gS rfl (gS rfl (gS rfl (gS rfl (gS rfl (gS rfl (gS rfl (gS rfl (gS rfl (gS rfl (gS rfl (gS rfl (gS rfl (gS rfl (gS rfl (gS rfl (gS rfl g0))))))))))))))))))))))))) (gS rfl (gS rfl (gS rfl (gS rfl (gS rfl (gS rfl (gS rfl (gS rfl (gS rfl (gS rfl (gS rfl (gS rfl (gS rfl (gS rfl (gS rfl (gS rfl (gS rfl (gS rfl (gS rfl (gS rfl (gS rfl (gS rfl (gS rfl (gS rfl g0)))))))))))))))))))))))) (gS rfl (gS rfl (gS rfl (gS rfl (gS rfl (gS rfl (gS rfl (gS rfl (gS rfl (gS rfl (gS rfl (gS rfl (gS rfl (gS rfl (gS rfl (gS rfl (gS rfl (gS rfl (gS rfl (gS rfl (gS rfl (gS rfl (gS rfl g0))))))))))))))))))))))) g0 (fun g => ?_)
                        refine c_false (et g0 rfl) (by rfl) ?_
                        refine c_skip ?_
                        refine hK20 _ _ ?_
                        refine fg6 1 16 17 18 6 7 (gS rfl (gS rfl (gS rfl (gS rfl (gS rfl (gS rfl g0)))))) (gS rfl (gS rfl (gS rfl (gS rfl (gS rfl g0))))) (gS rfl (gS rfl (gS rfl (gS rfl g0)))) (gS rfl (gS rfl (gS rfl g0))) (gS rfl (gS rfl g0)) (gS rfl g0) (fun g => ?_)
                        refine c_seq (fun K28 hK28 => ?_)
                        refine c_seq (fun K29 hK29 => ?_)
                        exact (by
                          refine c_region ?_
                          refine l_step (y_fld fld_113_3 (et (gS rfl g0) rfl)) ?_
                          refine l_step (y_load1 one_38 (et g0 rfl) (at1 (k15.cell oaC_cod))) ?_
                          refine l_step (y_fld fld_113_3 (et (gS rfl (gS rfl g0)) rfl)) ?_
                          refine l_step (y_load1 one_38 (et g0 rfl) (at1 (k18.cell oaC_cod))) ?_
                          refine l_eff (e_callV cal_40 (aC (et (gS rfl (gS rfl g0)) rfl) (aC (et g0 rfl) aN)) (law_eqSame _ (hC1.wv hF) (hC2.wv hF))) (fun v30 w30 h30 => ?_)
                          obtain ⟨rfl, u30⟩ := h30
                          replace G := G.tr (Go.ofUp hF u30)
                          replace V8 := V8.tr (Go.ofUp hF u30)
                          replace hF := hF.up u30
                          replace k15 := k15.up u30
                          replace k18 := k18.up u30
                          replace U := U.tr u30
                          refine l_step (y_not (et g0 rfl)) ?_
                          refine l_step (y_moveV (et g0 rfl)) ?_
                          refine gsplitL (i := 54) g0 (fun q31 => ?_) (fun q31 => ?_)
                          · skip
                            cases q31
                          · skip
                            refine l_gstep (j := 6) (t := 54) (by exact rfl) (by exact rfl) (et g0 rfl) (by decide) (y_fld fld_113_4 (et (gS rfl (gS rfl (gS rfl (gS rfl (gS rfl (gS rfl (gS rfl (gS rfl (gS rfl g0))))))))) rfl)) ?_
                            refine l_gstep (j := 6) (t := 54) (by exact rfl) (by exact rfl) (et (gS rfl g0) rfl) (by decide) (y_load1 one_111 (et g0 rfl) (at1 (k15.cell oaC_sto))) ?_
                            refine l_gstep (j := 6) (t := 54) (by exact rfl) (by exact rfl) (et (gS rfl (gS rfl g0)) rfl) (by decide) (y_len Hvaa.underlying111 (et g0 rfl)) ?_
                            refine l_gstep (j := 6) (t := 54) (by exact rfl) (by exact rfl) (et (gS rfl (gS rfl (gS rfl g0))) rfl) (by decide) (y_fld fld_113_4 (et (gS rfl (gS rfl (gS rfl (gS rfl (gS rfl (gS rfl (gS rfl (gS rfl (gS rfl (gS rfl (gS rfl g0))))))))))) rfl)) ?_
                            refine l_gstep (j := 6) (t := 54) (by exact rfl) (by exact rfl) (et (gS rfl (gS rfl (gS rfl (gS rfl g0)))) rfl) (by decide) (y_load1 one_111 (et g0 rfl) (at1 (k18.cell oaC_sto))) ?_
                            refine l_gstep (j := 6) (t := 54) (by exact rfl) (by exact rfl) (et (gS rfl (gS rfl (gS rfl (gS rfl (gS rfl g0))))) rfl) (by decide) (y_len Hvaa.underlying111 (et g0 rfl)) ?_
                            refine l_gstep (j := 6) (t := 54) (by exact rfl) (by exact rfl) (et (gS rfl (gS rfl (gS rfl (gS rfl (gS rfl (gS rfl g0)))))) rfl) (by decide) (y_neq (et (gS rfl (gS rfl (gS rfl g0))) rfl) (et g0 rfl)) ?_
                            refine l_step (y_pickF (et (gS rfl (gS rfl (gS rfl (gS rfl (gS rfl (gS rfl (gS rfl g0))))))) rfl) (et g0 rfl)) ?_
                            refine l_nil ?_
                            refine hK29 _ _ ?_
                            refine fg7 1 16 17 18 6 7 62 (gS rfl (gS rfl (gS rfl (gS rfl (gS rfl (gS rfl (gS rfl (gS rfl (gS rfl (gS rfl (gS rfl (gS rfl (gS rfl (gS rfl (gS rfl (gS rfl (gS rfl (gS rfl (gS rfl (gS rfl (gS rfl g0))))))))))))))))))))) (gS rfl (gS rfl (gS rfl (gS rfl (gS rfl (gS rfl (gS rfl (gS rfl (gS rfl (gS rfl (gS rfl (gS rfl (gS rfl (gS rfl (gS rfl (gS rfl (gS rfl (gS rfl (gS rfl (gS rfl g0)))))))))))))))))))) (gS rfl (gS rfl (gS rfl (gS rfl (gS rfl (gS rfl (gS rfl (gS rfl (gS rfl (gS rfl (gS rfl (gS rfl (gS rfl (gS rfl (gS rfl (gS rfl (gS rfl (gS rfl (gS rfl g0))))))))))))))))))) (gS rfl (gS rfl (gS rfl (gS rfl (gS rfl (gS rfl (gS rfl (gS rfl (gS rfl (gS rfl (gS rfl (gS rfl (gS rfl (gS rfl (gS rfl (gS rfl (gS rfl (gS rfl g0)))))))))))))))))) (gS rfl (gS rfl (gS rfl (gS rfl (gS rfl (gS rfl (gS rfl (gS rfl (gS rfl (gS rfl (gS rfl (gS rfl (gS rfl (gS rfl (gS rfl (gS rfl (gS rfl g0))))))))))))))))) (gS rfl (gS rfl (gS rfl (gS rfl (gS rfl (gS rfl (gS rfl (gS rfl (gS rfl (gS rfl (gS rfl (gS rfl (gS rfl (gS rfl (gS rfl (gS rfl g0)))))))))))))))) g0 (fun g => ?_)
                            refine c_false (et g0 rfl) (by (exact decide_eq_false (fun h => h rfl))) ?_
                            refine c_skip ?_
                            refine hK28 _ _ ?_
                            refine fg6 1 16 17 18 6 7 (gS rfl (gS rfl (gS rfl (gS rfl (gS rfl (gS rfl g0)))))) (gS rfl (gS rfl (gS rfl (gS rfl (gS rfl g0))))) (gS rfl (gS rfl (gS rfl (gS rfl g0)))) (gS rfl (gS rfl (gS rfl g0))) (gS rfl (gS rfl g0)) (gS rfl g0) (fun g => ?_)
                            refine c_seq (fun K33 hK33 => ?_)
                            exact (by
                              refine c_region ?_
                              refine l_step (y_fld fld_113_4 (et (gS rfl g0) rfl)) ?_
                              refine l_step (y_load1 one_111 (et g0 rfl) (at1 (k15.cell oaC_sto))) ?_
                              refine l_step (y_len Hvaa.underlying111 (et g0 rfl)) ?_
                              refine l_step y_moveC ?_
                              refine l_nil ?_
                              refine hK33 _ _ ?_
                              refine fg8 1 16 17 18 7 64 65 66 (gS rfl (gS rfl (gS rfl (gS rfl (gS rfl (gS rfl (gS rfl (gS rfl (gS rfl g0))))))))) (gS rfl (gS rfl (gS rfl (gS rfl (gS rfl (gS rfl (gS rfl (gS rfl g0)))))))) (gS rfl (gS rfl (gS rfl (gS rfl (gS rfl (gS rfl (gS rfl g0))))))) (gS rfl (gS rfl (gS rfl (gS rfl (gS rfl (gS rfl g0)))))) (gS rfl (gS rfl (gS rfl (gS rfl g0)))) (gS rfl (gS rfl g0)) (gS rfl g0) g0 (fun g => ?_)
                              refine c_block (fun Q34 hQ34 => ?_)
                              refine fg8 1 7 16 17 18 64 65 66 (gS rfl (gS rfl (gS rfl (gS rfl (gS rfl (gS rfl (gS rfl g0))))))) (gS rfl (gS rfl (gS rfl g0))) (gS rfl (gS rfl (gS rfl (gS rfl (gS rfl (gS rfl g0)))))) (gS rfl (gS rfl (gS rfl (gS rfl (gS rfl g0))))) (gS rfl (gS rfl (gS rfl (gS rfl g0)))) (gS rfl (gS rfl g0)) (gS rfl g0) g0 (fun g => ?_)
                              refine c_loop (fun k_ s_ W35 => ∃ (g : Nat → Value) (Hk35 : Store) (j : Nat), s_ = (upd (upd (upd (upd (upd (upd (upd (upd g 1 (.slice wb xs.length wd)) 7 (.pointer (some ⟨b18, 0, none⟩))) 16 (.slice wa xs.length wc)) 17 (.int .i64 (xs.length : Nat))) 18 (.int .i64 (i : Nat))) 64 (.slice sa1 xs[i].slots.length sc1)) 65 (.int .i64 (xs[i].slots.length : Nat))) 66 (.int .i64 (j : Nat))) ∧ xs[i].slots.length - j = k_ ∧ (j ≤ xs[i].slots.length) ∧ Go (fun k => False) w30 Hk8 W35 Hk35) (xs[i].slots.length - (0)) ?_ ?_
                              · exact ⟨g, _, 0, rfl, rfl, Nat.zero_le _, Go.refl hF⟩
                              · skip
                                intro k_ s_ W35 hI K35 hK35
                                obtain ⟨g, Hk35, j, rfl, rfl, hj, V35⟩ := hI
                                have hle35 := V35.le
                                replace nb15 := V35.nb nb15 k15.lt
                                replace nb18 := V35.nb nb18 k18.lt
                                replace hC1 := hC1.mono hle35
                                replace hS1 := hS1.mono hle35
                                replace hC2 := hC2.mono hle35
                                replace hS2 := hS2.mono hle35
                                replace hL0 := hL0.trans hle35
                                replace G := G.trans V35 (by intro b hb; first | exact hb.elim | omega | (simp at hb ⊢; omega))
                                replace V8 := V8.trans V35 (by intro b hb; first | exact hb.elim | omega | (simp at hb ⊢; omega))
                                replace hF := V35.fz
                                replace k15 := k15.ch V35.ch (by exact fun h => h)
                                replace k18 := k18.ch V35.ch (by exact fun h => h)
                                replace U := U.cc V35.ch (by intro b hb; first | exact hb.elim | omega | (simp at hb ⊢; omega))
                                refine c_seq (fun K36 hK36 => ?_)
                                exact (by
                                  refine c_region ?_
                                  refine l_step (y_lss (et g0 rfl) (et (gS rfl g0) rfl)) ?_
                                  refine l_nil ?_
                                  refine hK36 _ _ ?_
                                  refine c_seq (fun K37 hK37 => ?_)
                                  refine c_cond (et g0 rfl) (fun cB5 => ?_) (fun cB5 => ?_)
                                  · skip
                                    
                                    have hjl : j < xs[i].slots.length := by have := of_decide_eq_true cB5; omega
                                    refine c_skip ?_
                                    refine hK37 _ _ ?_
                                    refine fg8 1 7 16 17 18 64 65 66 (gS rfl (gS rfl (gS rfl (gS rfl (gS rfl (gS rfl (gS rfl (gS rfl g0)))))))) (gS rfl (gS rfl (gS rfl (gS rfl (gS rfl (gS rfl (gS rfl g0))))))) (gS rfl (gS rfl (gS rfl (gS rfl (gS rfl (gS rfl g0)))))) (gS rfl (gS rfl (gS rfl (gS rfl (gS rfl g0))))) (gS rfl (gS rfl (gS rfl (gS rfl g0)))) (gS rfl (gS rfl (gS rfl g0))) (gS rfl (gS rfl g0)) (gS rfl g0) (fun g => ?_)
                                    refine c_seq (fun K39 hK39 => ?_)
                                    refine c_block (fun Q40 hQ40 => ?_)
                                    refine c_seq (fun K41 hK41 => ?_)
                                    exact (by
                                      refine c_region ?_
                                      refine l_step (y_moveV (et g0 rfl)) ?_
                                      obtain ⟨b3q, o3q, r3q, e3q, row3, len3q, hr3, hk3, hv3⟩ := hS1.row hF (i := j) hjl
                                      rw [hr3] at row3 len3q
                                      refine l_step (y_idxSa e3q Hvaa.underlying111 sz_117 (et (gS rfl (gS rfl (gS rfl g0))) rfl) (et (gS rfl g0) rfl) ?_) ?_
                                      omega
                                      refine l_step (y_loadR agg_117 sz_117 (et g0 rfl) os_len (at1R row3)) ?_
                                      refine l_eff (e_alloc zr_117) (fun v42 w42 h42 => ?_)
                                      obtain ⟨b42, rfl, n42⟩ := h42
                                      have d15_42 : b15 < b42 := Nat.lt_of_lt_of_le k15.lt n42.fresh
                                      have d18_42 : b18 < b42 := Nat.lt_of_lt_of_le k18.lt n42.fresh
                                      have f42 : w.heap.size ≤ b42 := Nat.le_trans U.size n42.fresh
                                      have nb42 := hF.nb n42.fresh
                                      have fV8_42 := Nat.le_trans V8.ch.size n42.fresh
                                      have fV35_42 := Nat.le_trans V35.ch.size n42.fresh
                                      replace G := G.tr (Go.ofUp hF n42.up)
                                      replace V8 := V8.tr (Go.ofUp hF n42.up)
                                      replace V35 := V35.tr (Go.ofUp hF n42.up)
                                      replace hF := hF.up n42.up
                                      replace k15 := k15.up n42.up
                                      replace k18 := k18.up n42.up
                                      replace U := U.tr n42.up
                                      have k42 := n42.blk
                                      obtain ⟨zs42, hz42, k42⟩ : ∃ cs : Array Value, cs.size = 64 ∧ Blk w42 b42 cs := ⟨_, rfl, k42⟩
                                      refine l_step (y_assignV (et (gS rfl (gS rfl (gS rfl g0))) rfl)) ?_
                                      refine l_effN (e_store sz_117 (et (gS rfl g0) rfl) (cellsV (et (gS rfl (gS rfl g0)) rfl) rfl) os_len (by exact os_one) k42 (by (rw [hz42]; exact Nat.le_refl _))) (fun v43 w43 h43 => ?_)
                                      obtain ⟨rfl, x43⟩ := h43
                                      replace k15 := k15.ch x43.ch (by omega)
                                      replace k18 := k18.ch x43.ch (by omega)
                                      replace k42 := x43.blk.full (by rw [os_len, hz42])
                                      replace G := G.wr x43 (by first | exact .inr f42 | exact .inl rfl | omega | (simp; omega)) nb42
                                      replace V8 := V8.wr x43 (by first | exact .inr f42 | exact .inl rfl | omega | (simp; omega)) nb42
                                      replace V35 := V35.wr x43 (by first | exact .inr f42 | exact .inl rfl | omega | (simp; omega)) nb42
                                      replace hF := G.fz
                                      replace U := U.st x43 f42
                                      refine l_nil ?_
                                      refine hK41 _ _ ?_
                                      refine fg10 1 7 16 17 18 64 65 66 9 8 (gS rfl (gS rfl (gS rfl (gS rfl (gS rfl (gS rfl (gS rfl (gS rfl (gS rfl (gS rfl (gS rfl (gS rfl g0)))))))))))) (gS rfl (gS rfl (gS rfl (gS rfl (gS rfl (gS rfl (gS rfl (gS rfl (gS rfl (gS rfl (gS rfl g0))))))))))) (gS rfl (gS rfl (gS rfl (gS rfl (gS rfl (gS rfl (gS rfl (gS rfl (gS rfl (gS rfl g0)))))))))) (gS rfl (gS rfl (gS rfl (gS rfl (gS rfl (gS rfl (gS rfl (gS rfl (gS rfl g0))))))))) (gS rfl (gS rfl (gS rfl (gS rfl (gS rfl (gS rfl (gS rfl (gS rfl g0)))))))) (gS rfl (gS rfl (gS rfl (gS rfl (gS rfl (gS rfl (gS rfl g0))))))) (gS rfl (gS rfl (gS rfl (gS rfl (gS rfl (gS rfl g0)))))) (gS rfl (gS rfl (gS rfl (gS rfl (gS rfl g0))))) (gS rfl g0) g0 (fun g => ?_)
                                      refine c_seq (fun K44 hK44 => ?_)
                                      exact (by
                                        refine c_region ?_
                                        refine l_step (y_fld fld_113_4 (et (gS rfl (gS rfl (gS rfl (gS rfl (gS rfl (gS rfl (gS rfl (gS rfl g0)))))))) rfl)) ?_
                                        refine l_step (y_load1 one_111 (et g0 rfl) (at1 (k18.cell oaC_sto))) ?_
                                        refine l_step (y_moveV (et (gS rfl (gS rfl g0)) rfl)) ?_
                                        obtain ⟨b4q, o4q, r4q, e4q, row4, len4q, hr4, hk4, hv4⟩ := hS2.row hF (i := j) hjl
                                        rw [hr4] at row4 len4q
                                        refine l_step (y_idxSa e4q Hvaa.underlying111 sz_117 (et (gS rfl g0) rfl) (et g0 rfl) ?_) ?_
                                        omega
                                        refine l_step (y_loadR agg_117 sz_117 (et g0 rfl) os_len (at1R row4)) ?_
                                        refine l_eff (e_alloc zr_117) (fun v45 w45 h45 => ?_)
                                        obtain ⟨b45, rfl, n45⟩ := h45
                                        have d15_45 : b15 < b45 := Nat.lt_of_lt_of_le k15.lt n45.fresh
                                        have d18_45 : b18 < b45 := Nat.lt_of_lt_of_le k18.lt n45.fresh
                                        have d42_45 : b42 < b45 := Nat.lt_of_lt_of_le k42.lt n45.fresh
                                        have f45 : w.heap.size ≤ b45 := Nat.le_trans U.size n45.fresh
                                        have nb45 := hF.nb n45.fresh
                                        have fV8_45 := Nat.le_trans V8.ch.size n45.fresh
                                        have fV35_45 := Nat.le_trans V35.ch.size n45.fresh
                                        replace G := G.tr (Go.ofUp hF n45.up)
                                        replace V8 := V8.tr (Go.ofUp hF n45.up)
                                        replace V35 := V35.tr (Go.ofUp hF n45.up)
                                        replace hF := hF.up n45.up
                                        replace k15 := k15.up n45.up
                                        replace k18 := k18.up n45.up
                                        replace k42 := k42.up n45.up
                                        replace U := U.tr n45.up
                                        have k45 := n45.blk
                                        obtain ⟨zs45, hz45, k45⟩ : ∃ cs : Array Value, cs.size = 64 ∧ Blk w45 b45 cs := ⟨_, rfl, k45⟩
                                        refine l_effN (e_store sz_117 (et g0 rfl) (cellsV (et (gS rfl g0) rfl) rfl) os_len (by exact os_one) k45 (by (rw [hz45]; exact Nat.le_refl _))) (fun v46 w46 h46 => ?_)
                                        obtain ⟨rfl, x46⟩ := h46
                                        replace k15 := k15.ch x46.ch (by omega)
                                        replace k18 := k18.ch x46.ch (by omega)
                                        replace k42 := k42.ch x46.ch (by omega)
                                        replace k45 := x46.blk.full (by rw [os_len, hz45])
                                        replace G := G.wr x46 (by first | exact .inr f45 | exact .inl rfl | omega | (simp; omega)) nb45
                                        replace V8 := V8.wr x46 (by first | exact .inr f45 | exact .inl rfl | omega | (simp; omega)) nb45
                                        replace V35 := V35.wr x46 (by first | exact .inr f45 | exact .inl rfl | omega | (simp; omega)) nb45
                                        replace hF := G.fz
                                        replace U := U.st x46 f45
                                        refine l_nil ?_
                                        refine hK44 _ _ ?_
                                        refine fg10 1 7 16 17 18 64 65 66 9 10 (gS rfl (gS rfl (gS rfl (gS rfl (gS rfl (gS rfl (gS rfl (gS rfl (gS rfl (gS rfl (gS rfl (gS rfl (gS rfl (gS rfl (gS rfl g0))))))))))))))) (gS rfl (gS rfl (gS rfl (gS rfl (gS rfl (gS rfl (gS rfl (gS rfl (gS rfl (gS rfl (gS rfl (gS rfl (gS rfl (gS rfl g0)))))))))))))) (gS rfl (gS rfl (gS rfl (gS rfl (gS rfl (gS rfl (gS rfl (gS rfl (gS rfl (gS rfl (gS rfl (gS rfl (gS rfl g0))))))))))))) (gS rfl (gS rfl (gS rfl (gS rfl (gS rfl (gS rfl (gS rfl (gS rfl (gS rfl (gS rfl (gS rfl (gS rfl g0)))))))))))) (gS rfl (gS rfl (gS rfl (gS rfl (gS rfl (gS rfl (gS rfl (gS rfl (gS rfl (gS rfl (gS rfl g0))))))))))) (gS rfl (gS rfl (gS rfl (gS rfl (gS rfl (gS rfl (gS rfl (gS rfl (gS rfl (gS rfl g0)))))))))) (gS rfl (gS rfl (gS rfl (gS rfl (gS rfl (gS rfl (gS rfl (gS rfl (gS rfl g0))))))))) (gS rfl (gS rfl (gS rfl (gS rfl (gS rfl (gS rfl (gS rfl (gS rfl g0)))))))) (gS rfl (gS rfl (gS rfl (gS rfl (gS rfl (gS rfl (gS rfl g0))))))) g0 (fun g => ?_)
                                        refine c_seq (fun K47 hK47 => ?_)
                                        exact (by
                                          refine c_draw Up 14 [(0, true), (1, true), (2, true), (3, true), (4, false), (5, true), (6, true), (7, true), (8, true), (9, true), (10, true), (11, false), (12, true), (13, true)] (by kernel_rfl) (fun w48 hu => ⟨Up.refl _, ?_⟩)
                                          replace G := G.tr (Go.ofUp hF hu)
                                          replace V8 := V8.tr (Go.ofUp hF hu)
                                          replace V35 := V35.tr (Go.ofUp hF hu)
                                          replace hF := hF.up hu
                                          replace k15 := k15.up hu
                                          replace k18 := k18.up hu
                                          replace k42 := k42.up hu
                                          replace k45 := k45.up hu
                                          replace U := U.tr hu
                                          have SU := Up.refl w48
                                          refine p_step (by exact rfl) (y_fld fld_117_0 (et (gS rfl g0) rfl)) ?_
                                          refine p_step (by exact rfl) (y_slA000 Hvaa.underlying28 sz_5 (et g0 rfl) ) ?_
                                          refine p_step (by exact rfl) (y_fld fld_117_0 (et (gS rfl (gS rfl g0)) rfl)) ?_
                                          refine p_step (by exact rfl) (y_slA000 Hvaa.underlying28 sz_5 (et g0 rfl) ) ?_
                                          refine p_eff (by exact rfl) (e_callV cal_40 (aC (et (gS rfl (gS rfl g0)) rfl) (aC (et g0 rfl) aN)) (law_eqSame _ (wv_row32 (k42.row (RowIn.app _ _))) (wv_row32 (k45.row (RowIn.app _ _))))) (fun v49 w49 h49 => ?_)
                                          obtain ⟨rfl, u49⟩ := h49
                                          replace G := G.tr (Go.ofUp hF u49)
                                          replace V8 := V8.tr (Go.ofUp hF u49)
                                          replace V35 := V35.tr (Go.ofUp hF u49)
                                          replace hF := hF.up u49
                                          replace k15 := k15.up u49
                                          replace k18 := k18.up u49
                                          replace k42 := k42.up u49
                                          replace k45 := k45.up u49
                                          replace U := U.tr u49
                                          refine ⟨.inr (SU.tr u49), ?_⟩
                                          replace SU := SU.tr u49
                                          refine p_step (by exact rfl) (y_not (et g0 rfl)) ?_
                                          refine p_step (by exact rfl) (y_moveV (et g0 rfl)) ?_
                                          refine gsplitP (i := 82) g0 (fun q50 => ?_) (fun q50 => ?_)
                                          · skip
                                            cases q50
                                          · skip
                                            refine p_gstep (j := 6) (t := 82) (by exact rfl) (by exact rfl) (by exact rfl) (et g0 rfl) rfl (y_fld fld_117_1 (et (gS rfl (gS rfl (gS rfl (gS rfl (gS rfl (gS rfl (gS rfl (gS rfl (gS rfl g0))))))))) rfl)) ?_
                                            refine p_gstep (j := 6) (t := 82) (by exact rfl) (by exact rfl) (by exact rfl) (et (gS rfl g0) rfl) rfl (y_slA000 Hvaa.underlying28 sz_5 (et g0 rfl) ) ?_
                                            refine p_gstep (j := 6) (t := 82) (by exact rfl) (by exact rfl) (by exact rfl) (et (gS rfl (gS rfl g0)) rfl) rfl (y_fld fld_117_1 (et (gS rfl (gS rfl (gS rfl (gS rfl (gS rfl (gS rfl (gS rfl (gS rfl (gS rfl (gS rfl g0)))))))))) rfl)) ?_
                                            refine p_gstep (j := 6) (t := 82) (by exact rfl) (by exact rfl) (by exact rfl) (et (gS rfl (gS rfl (gS rfl g0))) rfl) rfl (y_slA000 Hvaa.underlying28 sz_5 (et g0 rfl) ) ?_
                                            refine p_geff (j := 6) (t := 82) (by exact rfl) (by exact rfl) (by exact rfl) (et (gS rfl (gS rfl (gS rfl (gS rfl g0)))) rfl) rfl (e_callV cal_40 (aC (et (gS rfl (gS rfl g0)) rfl) (aC (et g0 rfl) aN)) (law_eqSame _ (wv_row32 (k42.row os_val)) (wv_row32 (k45.row os_val)))) (fun v51 w51 h51 => ?_)
                                            obtain ⟨rfl, u51⟩ := h51
                                            replace G := G.tr (Go.ofUp hF u51)
                                            replace V8 := V8.tr (Go.ofUp hF u51)
                                            replace V35 := V35.tr (Go.ofUp hF u51)
                                            replace hF := hF.up u51
                                            replace k15 := k15.up u51
                                            replace k18 := k18.up u51
                                            replace k42 := k42.up u51
                                            replace k45 := k45.up u51
                                            replace U := U.tr u51
                                            refine ⟨.inr (SU.tr u51), ?_⟩
                                            replace SU := SU.tr u51
                                            refine p_gstep (j := 6) (t := 82) (by exact rfl) (by exact rfl) (by exact rfl) (et (gS rfl (gS rfl (gS rfl (gS rfl (gS rfl g0))))) rfl) rfl (y_not (et g0 rfl)) ?_
                                            refine p_step (by exact rfl) (y_pickF (et (gS rfl (gS rfl (gS rfl (gS rfl (gS rfl (gS rfl g0)))))) rfl) (et g0 rfl)) ?_
                                            refine p_nil ?_
                                            refine hK47 _ _ ?_
                                            refine fg9 1 7 16 17 18 64 65 66 89 (gS rfl (gS rfl (gS rfl (gS rfl (gS rfl (gS rfl (gS rfl (gS rfl (gS rfl (gS rfl (gS rfl (gS rfl (gS rfl (gS rfl (gS rfl (gS rfl (gS rfl (gS rfl (gS rfl (gS rfl (gS rfl (gS rfl (gS rfl (gS rfl g0)))))))))))))))))))))))) (gS rfl (gS rfl (gS rfl (gS rfl (gS rfl (gS rfl (gS rfl (gS rfl (gS rfl (gS rfl (gS rfl (gS rfl (gS rfl (gS rfl (gS rfl (gS rfl (gS rfl (gS rfl (gS rfl (gS rfl (gS rfl (gS rfl (gS rfl g0))))))))))))))))))))))) (gS rfl (gS rfl (gS rfl (gS rfl (gS rfl (gS rfl (gS rfl (gS rfl (gS rfl (gS rfl (gS rfl (gS rfl (gS rfl (gS rfl (gS rfl (gS rfl (gS rfl (gS rfl (gS rfl (gS rfl (gS rfl (gS rfl g0)))))))))))))))))))))) (gS rfl (gS rfl (gS rfl (gS rfl (gS rfl (gS rfl (gS rfl (gS rfl (gS rfl (gS rfl (gS rfl (gS rfl (gS rfl (gS rfl (gS rfl (gS rfl (gS rfl (gS rfl (gS rfl (gS rfl (gS rfl g0))))))))))))))))))))) (gS rfl (gS rfl (gS rfl (gS rfl (gS rfl (gS rfl (gS rfl (gS rfl (gS rfl (gS rfl (gS rfl (gS rfl (gS rfl (gS rfl (gS rfl (gS rfl (gS rfl (gS rfl (gS rfl (gS rfl g0)))))))))))))))))))) (gS rfl (gS rfl (gS rfl (gS rfl (gS rfl (gS rfl (gS rfl (gS rfl (gS rfl (gS rfl (gS rfl (gS rfl (gS rfl (gS rfl (gS rfl (gS rfl (gS rfl (gS rfl (gS rfl g0))))))))))))))))))) (gS rfl (gS rfl (gS rfl (gS rfl (gS rfl (gS rfl (gS rfl (gS rfl (gS rfl (gS rfl (gS rfl (gS rfl (gS rfl (gS rfl (gS rfl (gS rfl (gS rfl (gS rfl g0)))))))))))))))))) (gS rfl (gS rfl (gS rfl (gS rfl (gS rfl (gS rfl (gS rfl (gS rfl (gS rfl (gS rfl (gS rfl (gS rfl (gS rfl (gS rfl (gS rfl (gS rfl (gS rfl g0))))))))))))))))) g0 (fun g => ?_)
                                            refine c_false (et g0 rfl) (by rfl) ?_
                                            refine c_skip ?_
                                            refine hQ40 _ _ _ (in_normal ?_)
                                            refine hK39 _ _ ?_
                                            refine fg8 1 7 16 17 18 64 65 66 (gS rfl (gS rfl (gS rfl (gS rfl (gS rfl (gS rfl (gS rfl (gS rfl g0)))))))) (gS rfl (gS rfl (gS rfl (gS rfl (gS rfl (gS rfl (gS rfl g0))))))) (gS rfl (gS rfl (gS rfl (gS rfl (gS rfl (gS rfl g0)))))) (gS rfl (gS rfl (gS rfl (gS rfl (gS rfl g0))))) (gS rfl (gS rfl (gS rfl (gS rfl g0)))) (gS rfl (gS rfl (gS rfl g0))) (gS rfl (gS rfl g0)) (gS rfl g0) (fun g => ?_)
                                            exact (by
                                              refine c_region ?_
                                              refine l_step (y_add (et g0 rfl) rfl (addIN (y := 1) ?_)) ?_
                                              omega
                                              refine l_step (y_moveV (et g0 rfl)) ?_
                                              refine l_nil ?_
                                              refine fK8 1 7 16 17 18 64 65 66 (gS rfl (gS rfl (gS rfl (gS rfl (gS rfl (gS rfl (gS rfl (gS rfl (gS rfl g0))))))))) (gS rfl (gS rfl (gS rfl (gS rfl (gS rfl (gS rfl (gS rfl (gS rfl g0)))))))) (gS rfl (gS rfl (gS rfl (gS rfl (gS rfl (gS rfl (gS rfl g0))))))) (gS rfl (gS rfl (gS rfl (gS rfl (gS rfl (gS rfl g0)))))) (gS rfl (gS rfl (gS rfl (gS rfl (gS rfl g0))))) (gS rfl (gS rfl (gS rfl (gS rfl g0)))) (gS rfl (gS rfl (gS rfl g0))) g0 (fun g => ?_)
                                              exact hK35 (xs[i].slots.length - ((j + 1))) _ _ (by omega) ⟨g, _, (j + 1), rfl, rfl, by omega, V35⟩))))
                                  · skip
                                    
                                    refine c_exit ?_
                                    refine hQ34 _ _ _ (in_exit ?_)
                                    refine hQ13 _ _ _ (in_normal ?_)
                                    refine hK12 _ _ ?_
                                    refine fg4 1 16 17 18 (gS rfl (gS rfl (gS rfl (gS rfl (gS rfl (gS rfl (gS rfl (gS rfl g0)))))))) (gS rfl (gS rfl (gS rfl (gS rfl (gS rfl (gS rfl g0)))))) (gS rfl (gS rfl (gS rfl (gS rfl (gS rfl g0))))) (gS rfl (gS rfl (gS rfl (gS rfl g0)))) (fun g => ?_)
                                    exact (by
                                      refine c_region ?_
                                      refine l_step (y_add (et g0 rfl) rfl (addIN (y := 1) ?_)) ?_
                                      omega
                                      refine l_step (y_moveV (et g0 rfl)) ?_
                                      refine l_nil ?_
                                      refine fK4 1 16 17 18 (gS rfl (gS rfl (gS rfl (gS rfl (gS rfl g0))))) (gS rfl (gS rfl (gS rfl (gS rfl g0)))) (gS rfl (gS rfl (gS rfl g0))) g0 (fun g => ?_)
                                      exact hK8 (xs.length - ((i + 1))) _ _ (by omega) ⟨g, _, (i + 1), rfl, rfl, by omega, V8⟩)))))))
            · skip
              
              refine c_exit ?_
              refine hQ7 _ _ _ (in_exit ?_)
              refine hK5 _ _ ?_
              refine fg0 (fun g => ?_)
              refine c_seq (fun K53 hK53 => ?_)
              exact (by
                refine c_region ?_
                refine l_step y_assignC ?_
                refine l_nil ?_
                refine hK53 _ _ ?_
                refine c_ret ?_
                repeat with_reducible refine then_ret ?_
                refine ret1 rfl (res_tmp (et g0 rfl)) ?_
                exact ⟨rfl, U⟩)))))
end Go.Proofs.YgvaawGreat
