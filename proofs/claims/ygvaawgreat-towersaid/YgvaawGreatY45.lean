import Derived.Test.YgvaawGreatY44
import Derived.Test.YgvaawGreatApC
set_option maxRecDepth 100000
set_option maxHeartbeats 4000000
set_option linter.unusedSimpArgs false
set_option linter.unusedVariables false
namespace Go.Proofs.YgvaawGreat
open Go
theorem Tr.tail {d : Nat} {l : List Nat} (h : Tr (d :: l)) (hl : l ≠ []) : Tr l := fun e he => h e (by rw [List.getLast?_cons_of_ne_nil hl]; exact he)
theorem val_pos : ∀ {l : List Nat}, Tr l → l ≠ [] → val 256 l ≠ 0
  | [], _, h => absurd rfl h
  | [d], h, _ => by
    have := h d rfl
    simp [val]; exact this
  | d :: e :: l, h, _ => by
    have := val_pos (l := e :: l) (h.tail (by simp)) (by simp)
    rw [val_cons]
    omega
theorem lenB_val : ∀ {l : List Nat}, Tr l → Dig 256 l → lenB (val 256 l) = l.length
  | [], _, _ => by rw [lenB]; simp [val]
  | d :: l, h, hd => by
    have hp := val_pos h (by simp)
    rw [lenB, dif_neg hp, val_cons, show (d + 256 * val 256 l) / 256 = val 256 l by have := hd d (by simp); omega]
    by_cases hl : l = []
    · subst hl
      rw [show val 256 ([] : List Nat) = 0 from rfl, lenB]
      simp
    · rw [lenB_val (h.tail hl) (fun e he => hd e (by simp [he])), List.length_cons]
theorem lenB_le : ∀ (k n : Nat), n < 256 ^ k → lenB n ≤ k
  | 0, n, h => by
    have : n = 0 := by simpa using h
    subst this
    rw [lenB]; simp
  | k + 1, n, h => by
    rw [lenB]
    split
    · omega
    · have := lenB_le k (n / 256) (by rw [Nat.div_lt_iff_lt_mul (by decide)]; rw [Nat.pow_succ] at h; exact h)
      omega
theorem crtR_nil {l : List Nat} (h : l.length = 0) : crtR (val 256 l) = [128] := by
  have : l = [] := List.eq_nil_of_length_eq_zero h
  subst this
  simp [val, crtR]
theorem crtR_one {l : List Nat} (h : Tr l) (h1 : l.length = 1) (h2 : l[0] < 128) : crtR (val 256 l) = [l[0]] := by
  match l, h1, h2 with
  | [d], _, h2 =>
    have h0 : d ≠ 0 := h d rfl
    have h2 : d < 128 := h2
    have e : val 256 [d] = d := by simp [val]
    rw [e, crtR, if_neg h0, if_pos h2]
    rfl
theorem crtR_big {l : List Nat} (h : Tr l) (hd : Dig 256 l) (h0 : 0 < l.length) (hne : l.length = 1 → ¬ l[0] < 128) : crtR (val 256 l) = (128 + l.length) :: l.reverse := by
  have hp := val_pos h (by intro e; subst e; simp at h0)
  have hg : ¬ val 256 l < 128 := by
    match l, h, h0, hne with
    | [d], h, _, hne =>
      have := hne rfl
      simp [val] at this ⊢
      exact this
    | d :: e :: l, h, _, _ =>
      have := val_pos (l := e :: l) (h.tail (by simp)) (by simp)
      rw [val_cons]
      omega
  have hb := be_val (N := l.length) hd (Nat.le_refl _)
  rw [Nat.sub_self, List.replicate_zero, List.nil_append] at hb
  rw [crtR, if_neg hp, if_neg hg, lenB_val h hd, hb]
theorem rev_next {l : List Nat} {i : Nat} (hi : 0 < i) (hl : i ≤ l.length) : (l.drop i).reverse ++ [l[i - 1]] = (l.drop (i - 1)).reverse := by
  rw [List.drop_eq_getElem_cons (show i - 1 < l.length by omega), List.reverse_cons, show i - 1 + 1 = i by omega]
theorem AB.wid {base B C : Nat} {w : World} {v : Value} {l : List Nat} (h : AB base B w v l) (hB : B ≤ C) : AB base C w v l := ⟨h.own, fun q hq => ⟨(h.lim q hq).1, Nat.lt_of_lt_of_le (h.lim q hq).2 hB⟩, h.dig⟩
theorem yp_createAddr (hKec : KSum) {w : World} {H : Store} (hF : Fz w H) {a n : Nat} {vx : Value} (ha : a < A160) (h1 : NV H vx n) (sX : Sm n) (hn : n < 18446744073709551616) :
    Ret 44 [aV a, vx] w (fun v w' => ∃ H', v = aV (crtN a n) ∧ Go No w H w' H') := by
  refine enter (n := 62) Hvaa.func44 rfl rfl (Nat.le_of_ble_eq_true rfl) ?_
  have U := Up.refl w
  have G : Go (No) w H w H := Go.refl hF
  refine c_seq (fun K1 hK1 => ?_)
  exact (by
    refine c_region ?_
    refine l_eff (e_boxV (et g0 rfl)) (fun v2 w2 h2 => ?_)
    obtain ⟨b2, rfl, n2⟩ := h2
    have f2 : w.heap.size ≤ b2 := Nat.le_trans U.size n2.fresh
    have nb2 := hF.nb n2.fresh
    replace G := G.tr (Go.ofUp hF n2.up)
    replace hF := hF.up n2.up
    replace U := U.tr n2.up
    have k2 := n2.blk
    replace k2 : Blk w2 b2 (bL (be 20 a)).toArray := k2
    refine l_eff (e_alloc zr_25) (fun v3 w3 h3 => ?_)
    obtain ⟨b3, rfl, n3⟩ := h3
    have d2_3 : b2 < b3 := Nat.lt_of_lt_of_le k2.lt n3.fresh
    have f3 : w.heap.size ≤ b3 := Nat.le_trans U.size n3.fresh
    have nb3 := hF.nb n3.fresh
    replace G := G.tr (Go.ofUp hF n3.up)
    replace hF := hF.up n3.up
    replace k2 := k2.up n3.up
    replace U := U.tr n3.up
    have k3 := n3.blk
    refine l_nil ?_
    refine hK1 _ _ ?_
    refine fg3 1 2 4 (gS rfl (gS rfl (gS rfl g0))) (gS rfl g0) g0 (fun g => ?_)
    refine c_seq (fun K4 hK4 => ?_)
    exact (by
      refine c_region ?_
      obtain ⟨base, hbs⟩ : ∃ base, base = w3.heap.size := ⟨_, rfl⟩
      have hbw : w.heap.size ≤ base := by rw [hbs]; exact U.size
      have hHb : ∀ q, Store.has H q → q < base := fun q hq => by rw [hbs]; exact hF.lt hq
      have hlb2 : b2 < base := by rw [hbs]; exact k2.lt
      have hlb3 : b3 < base := by rw [hbs]; exact k3.lt
      refine l_eff (e_byte0 (q := 128) rfl (by decide)) (fun v5 w5 h5 => ?_)
      obtain ⟨rb, rfl, hO, u5⟩ := h5
      replace G := G.tr (Go.ofUp hF u5)
      replace hF := hF.up u5
      replace k2 := k2.up u5
      replace k3 := k3.up u5
      replace U := U.tr u5
      rw [← hbs] at hO
      have hbW := u5.size
      have hOn : ∀ q, (Value.slice (some ⟨rb, 0, none⟩) 1 1).ownBlock = some q → ¬ Store.has H q := fun q e hh => by have := hO.lim q e; have := hHb q hh; omega
      refine l_step (y_assignV (et g0 rfl)) ?_
      refine l_nil ?_
      refine hK4 _ _ ?_
      refine fg4 1 2 4 5 (gS rfl (gS rfl (gS rfl (gS rfl g0)))) (gS rfl (gS rfl (gS rfl g0))) (gS rfl (gS rfl g0)) g0 (fun g => ?_)
      refine c_seq (fun K6 hK6 => ?_)
      exact (by
        refine c_region ?_
        refine l_step (y_moveV (et (gS rfl (gS rfl (gS rfl g0))) rfl)) ?_
        refine l_eff (e_callV cal_123 (aC (et g0 rfl) aN) (nat_normN hF h1 sX)) (fun v7 w7 h7 => ?_)
        obtain ⟨H7, g7, n7⟩ := h7
        have hlew7 := g7.le
        replace nb2 := g7.nb nb2 k2.lt
        replace nb3 := g7.nb nb3 k3.lt
        replace h1 := h1.mono hlew7
        replace k2 := k2.up g7.up
        replace k3 := k3.up g7.up
        replace hO := hO.up g7.up
        replace U := U.tr g7.up
        replace G := G.tr g7
        replace hF := g7.fz
        obtain ⟨ld, la, lc, hle, hBl, hval, htr, hl2, hlc, h63⟩ := n7.len sX
        subst hle
        have hl8 : ld.length ≤ 8 := by rw [← lenB_val htr hBl.dig, hval]; exact lenB_le 8 n hn
        have hOn : ∀ q, (Value.slice (some ⟨rb, 0, none⟩) 1 1).ownBlock = some q → ¬ Store.has H7 q := fun q e => g7.nb (hOn q e) (hO.lim q e).2
        refine l_step (y_assignV (et g0 rfl)) ?_
        refine l_nil ?_
        refine hK6 _ _ ?_
        refine fg4 2 4 5 6 (gS rfl (gS rfl (gS rfl (gS rfl (gS rfl g0))))) (gS rfl (gS rfl (gS rfl (gS rfl g0)))) (gS rfl (gS rfl (gS rfl g0))) g0 (fun g => ?_)
        refine c_seq (fun K8 hK8 => ?_)
        refine c_seq (fun K9 hK9 => ?_)
        exact (by
          refine c_region ?_
          refine l_step (y_moveV (et g0 rfl)) ?_
          refine l_step (y_len Hvaa.underlying95 (et g0 rfl)) ?_
          refine l_step (y_eql (et g0 rfl) rfl) ?_
          refine l_step (y_moveV (et g0 rfl)) ?_
          refine gsplitL (i := 15) g0 (fun q10 => ?_) (fun q10 => ?_)
          · skip
            have hl1 : ld.length = 1 := by have := of_decide_eq_true q10; omega
            obtain ⟨lb, lo, hla, hlb, hlr⟩ := (hBl.wv hF).at (by omega)
            cases hla
            refine l_gstep (j := 3) (t := 15) (by exact rfl) (by exact rfl) (et g0 rfl) (by decide) (y_moveV (et (gS rfl (gS rfl (gS rfl (gS rfl (gS rfl g0))))) rfl)) ?_
            refine l_gstep (j := 3) (t := 15) (by exact rfl) (by exact rfl) (et (gS rfl g0) rfl) (by decide) (y_idxS Hvaa.underlying95 sz_5 (et g0 rfl) rfl ?_ ?_) ?_
            omega
            omega
            refine l_gstep (j := 3) (t := 15) (by exact rfl) (by exact rfl) (et (gS rfl (gS rfl g0)) rfl) (by decide) (y_load1 one_5 (et g0 rfl) (at1 (row_byte hlr (by omega)))) ?_
            refine l_gstep (j := 3) (t := 15) (by exact rfl) (by exact rfl) (et (gS rfl (gS rfl (gS rfl g0))) rfl) (by decide) (y_lss (et g0 rfl) rfl) ?_
            refine l_step (y_pickT (et (gS rfl (gS rfl (gS rfl (gS rfl g0)))) rfl) (et g0 rfl)) ?_
            refine l_nil ?_
            refine hK9 _ _ ?_
            refine fg5 2 4 5 6 20 (gS rfl (gS rfl (gS rfl (gS rfl (gS rfl (gS rfl (gS rfl (gS rfl (gS rfl (gS rfl (gS rfl (gS rfl (gS rfl g0))))))))))))) (gS rfl (gS rfl (gS rfl (gS rfl (gS rfl (gS rfl (gS rfl (gS rfl (gS rfl (gS rfl (gS rfl (gS rfl g0)))))))))))) (gS rfl (gS rfl (gS rfl (gS rfl (gS rfl (gS rfl (gS rfl (gS rfl (gS rfl (gS rfl (gS rfl g0))))))))))) (gS rfl (gS rfl (gS rfl (gS rfl (gS rfl (gS rfl (gS rfl (gS rfl (gS rfl (gS rfl g0)))))))))) g0 (fun g => ?_)
            refine c_cond (et g0 rfl) (fun cB1 => ?_) (fun cB1 => ?_)
            · skip
              
              have hx1 : ld[0] < 128 := by have h9 := of_decide_eq_true cB1; have h8 : ((ld[0] : Nat) : Int) < 128 := h9; omega
              exact (by
                refine c_region ?_
                refine l_step (y_moveV (et (gS rfl (gS rfl g0)) rfl)) ?_
                refine l_step (y_moveV (et (gS rfl (gS rfl g0)) rfl)) ?_
                refine l_step (y_idxS Hvaa.underlying95 sz_5 (et g0 rfl) rfl ?_ ?_) ?_
                omega
                omega
                refine l_step (y_load1 one_5 (et g0 rfl) (at1 (row_byte hlr (by omega)))) ?_
                refine l_step (y_idxS Hvaa.underlying38 sz_5 (et (gS rfl (gS rfl (gS rfl g0))) rfl) rfl ?_ ?_) ?_
                omega
                omega
                refine l_effN (e_storeAB (et g0 rfl) rfl (et (gS rfl g0) rfl) (hBl.dig _ (List.getElem_mem _)) hO) (fun v12 w12 h12 => ?_)
                obtain ⟨rfl, hO12, c12, z12⟩ := h12
                have hOo := hO
                replace G := G.chs c12 (by intro b hb; have h9 := hOo.lim b (by rw [hb]; rfl); first | exact .inr (by omega) | omega) (by intro q hq hh; exact hOn q (by rw [hq]; rfl) hh)
                replace hF := G.fz
                replace k2 := k2.ch c12 (by first | omega | (have h9 := hOo.lim rb rfl; omega) | exact hOo.ne (by omega))
                replace k3 := k3.ch c12 (by first | omega | (have h9 := hOo.lim rb rfl; omega) | exact hOo.ne (by omega))
                replace hO := hO12
                replace U := U.cc c12 (by intro b hb; have h9 := hOo.lim b (by rw [hb]; rfl); first | exact .inr (by omega) | omega)
                have hR : [ld[0]] = crtR n := by rw [← hval]; exact (crtR_one htr hl1 hx1).symm
                refine l_nil ?_
                refine hK8 _ _ ?_
                refine fg3 2 4 5 (gS rfl (gS rfl (gS rfl (gS rfl (gS rfl (gS rfl (gS rfl (gS rfl (gS rfl g0))))))))) (gS rfl (gS rfl (gS rfl (gS rfl (gS rfl (gS rfl (gS rfl (gS rfl g0)))))))) (gS rfl (gS rfl (gS rfl (gS rfl (gS rfl (gS rfl (gS rfl g0))))))) (fun g => ?_)
                refine c_seq (fun K13 hK13 => ?_)
                exact (by
                  refine c_region ?_
                  refine l_step (y_moveV (et g0 rfl)) ?_
                  obtain ⟨Hz14, Gz14, hlz14, bvz14, hnz14⟩ := hO.keep' G hbw
                  replace G := Gz14
                  replace hF := G.fz
                  replace h1 := h1.mono hlz14
                  replace hBl := hBl.mono hlz14
                  replace nb2 := fun hh => (hnz14 _ hh).elim nb2 (fun e => hO.ne (by omega) e)
                  replace nb3 := fun hh => (hnz14 _ hh).elim nb3 (fun e => hO.ne (by omega) e)
                  have hrl9 : (crtR n).length = 1 := congrArg List.length hR.symm
                  have hx9 : 1 ≤ 9 := by decide
                  have hq9 : 192 + (21 + 1) = 213 + (crtR n).length := by have h9 := hrl9; omega
                  replace bvz14 : BV _ _ [ld[0]] := bvz14
                  rw [hR] at bvz14
                  refine l_step (y_len Hvaa.underlying38 (et g0 rfl)) ?_
                  refine l_step (y_add rfl (et g0 rfl) (addIN (x := 21) ?_)) ?_
                  omega
                  refine l_step (y_conv Hvaa.underlying3 Hvaa.underlying5 (et g0 rfl) (wrapU_id uk8 ?_)) ?_
                  omega
                  refine l_step (y_add rfl (et g0 rfl) (wrapU_addN (a := 192) uk8 ?_)) ?_
                  omega
                  obtain ⟨base, hbs⟩ : ∃ base, base = w12.heap.size := ⟨_, rfl⟩
                  have hbw : w.heap.size ≤ base := by rw [hbs]; exact U.size
                  have hHb : ∀ q, Store.has Hz14 q → q < base := fun q hq => by rw [hbs]; exact hF.lt hq
                  have hlb2 : b2 < base := by rw [hbs]; exact k2.lt
                  have hlb3 : b3 < base := by rw [hbs]; exact k3.lt
                  refine l_eff (e_bytes2 (q := 213 + (crtR n).length) (r := 148) (Eq.trans (et g0 rfl) (congrArg (fun z : Nat => Value.int .u8 (z : Int)) hq9)) rfl (by omega) (by decide)) (fun v15 w15 h15 => ?_)
                  obtain ⟨hO, u15⟩ := h15
                  replace G := G.tr (Go.ofUp hF u15)
                  replace hF := hF.up u15
                  replace k2 := k2.up u15
                  replace k3 := k3.up u15
                  replace U := U.tr u15
                  rw [← hbs] at hO
                  have hbW2 := u15.size
                  exact (by
                    refine l_step (y_assignV (et g0 rfl)) ?_
                    refine l_nil ?_
                    refine hK13 _ _ ?_
                    refine fg4 2 4 5 8 (gS rfl (gS rfl (gS rfl (gS rfl (gS rfl (gS rfl (gS rfl (gS rfl (gS rfl g0))))))))) (gS rfl (gS rfl (gS rfl (gS rfl (gS rfl (gS rfl (gS rfl (gS rfl g0)))))))) (gS rfl (gS rfl (gS rfl (gS rfl (gS rfl (gS rfl (gS rfl g0))))))) g0 (fun g => ?_)
                    refine c_seq (fun K16 hK16 => ?_)
                    exact (by
                      refine c_region ?_
                      refine l_step (y_moveV (et g0 rfl)) ?_
                      refine l_step (y_slA000 Hvaa.underlying25 sz_5 (et (gS rfl (gS rfl (gS rfl (gS rfl g0)))) rfl) ) ?_
                      have hbz : base ≤ w15.heap.size := by rw [hbs]; exact hbW2
                      refine l_eff (e_appB Hvaa.underlying38 (et (gS rfl g0) rfl) hO (l2 := be 20 a) (length_be _ _) (et g0 rfl) (k2.row (RowIn.self _)) (be_lt _ _) (by simp only [length_be, List.length_cons, List.length_nil]; omega) hbz) (fun v17 w17 h17 => ?_)
                      obtain ⟨hO17, c17⟩ := h17
                      have hOo := hO
                      replace G := G.chs c17 (by intro b hb; have h9 := hOo.lim b hb.symm; first | exact .inr (by omega) | omega) (by intro q hq hh; have := hHb q hh; have := hOo.lim q hq.symm; omega)
                      replace hF := G.fz
                      replace k2 := k2.ch c17 (by first | omega | exact hOo.ne (by omega))
                      replace k3 := k3.ch c17 (by first | omega | exact hOo.ne (by omega))
                      replace hO := hO17
                      replace U := U.cc c17 (by intro b hb; have h9 := hOo.lim b hb.symm; first | exact .inr (by omega) | omega)
                      refine l_step (y_assignV (et g0 rfl)) ?_
                      refine l_nil ?_
                      refine hK16 _ _ ?_
                      refine fg3 4 5 8 (gS rfl (gS rfl (gS rfl (gS rfl (gS rfl (gS rfl g0)))))) (gS rfl (gS rfl (gS rfl (gS rfl (gS rfl g0))))) g0 (fun g => ?_)
                      refine c_seq (fun K18 hK18 => ?_)
                      exact (by
                        refine c_region ?_
                        refine l_step (y_moveV (et g0 rfl)) ?_
                        refine l_step (y_moveV (et (gS rfl (gS rfl g0)) rfl)) ?_
                        replace hbz : base ≤ w17.heap.size := Nat.le_trans hbz c17.size
                        obtain ⟨qbA, qoA, eqA, hqbA, hqrA⟩ := WV.at (by first | exact bvz14.wv hF | (rw [hrl9]; exact bvz14.wv hF)) (by rw [hrl9]; first | decide | simp)
                        cases eqA
                        refine l_eff (e_appB Hvaa.underlying38 (et (gS rfl g0) rfl) hO (l2 := (crtR n)) hrl9 (et g0 rfl) hqrA bvz14.dig (by simp only [length_be, List.length_append, List.length_cons, List.length_nil]; have h9 := hrl9; have h8 := hx9; omega) hbz) (fun v19 w19 h19 => ?_)
                        obtain ⟨hO19, c19⟩ := h19
                        have hOo := hO
                        replace G := G.chs c19 (by intro b hb; have h9 := hOo.lim b hb.symm; first | exact .inr (by omega) | omega) (by intro q hq hh; have := hHb q hh; have := hOo.lim q hq.symm; omega)
                        replace hF := G.fz
                        replace k2 := k2.ch c19 (by first | omega | exact hOo.ne (by omega))
                        replace k3 := k3.ch c19 (by first | omega | exact hOo.ne (by omega))
                        replace hO := hO19
                        replace U := U.cc c19 (by intro b hb; have h9 := hOo.lim b hb.symm; first | exact .inr (by omega) | omega)
                        obtain ⟨Hz20, Gz20, hlz20, bvz20, hnz20⟩ := hO.keep' G hbw
                        replace G := Gz20
                        replace hF := G.fz
                        replace h1 := h1.mono hlz20
                        replace hBl := hBl.mono hlz20
                        replace bvz14 := bvz14.mono hlz20
                        replace nb2 := fun hh => (hnz20 _ hh).elim nb2 (fun e => hO.ne (by omega) e)
                        replace nb3 := fun hh => (hnz20 _ hh).elim nb3 (fun e => hO.ne (by omega) e)
                        refine l_eff (e_callV cal_124 (aC (et g0 rfl) aN) (yp_hashedAddr hKec hF bvz20 (by simp only [length_be, List.length_append, List.length_cons, List.length_nil]; have h9 := hrl9; have h8 := hx9; omega))) (fun v21 w21 h21 => ?_)
                        obtain ⟨rfl, u21⟩ := h21
                        replace G := G.tr (Go.ofUp hF u21)
                        replace hF := hF.up u21
                        replace k2 := k2.up u21
                        replace k3 := k3.up u21
                        replace U := U.tr u21
                        refine l_effN (e_store sz_25 (et (gS rfl (gS rfl (gS rfl (gS rfl (gS rfl (gS rfl g0)))))) rfl) (cellsV (et g0 rfl) rfl) (by rw [length_bL, length_be]) (by exact one_bL _) k3 (by exact Nat.le_of_ble_eq_true rfl)) (fun v22 w22 h22 => ?_)
                        obtain ⟨rfl, x22⟩ := h22
                        replace k2 := k2.ch x22.ch (by omega)
                        replace k3 := x22.blk.full (by rw [length_bL, length_be]; rfl)
                        replace G := G.wr x22 (by first | exact .inr f3 | omega | (simp; omega)) nb3
                        replace hF := G.fz
                        replace U := U.st x22 f3
                        refine l_nil ?_
                        refine hK18 _ _ ?_
                        refine fg1 4 (gS rfl (gS rfl (gS rfl (gS rfl (gS rfl (gS rfl g0)))))) (fun g => ?_)
                        refine c_ret ?_
                        repeat with_reducible refine then_ret ?_
                        refine ret1 rfl (res_blk agg_25 sz_25 (et g0 rfl) (by rw [List.size_toArray, length_bL, length_be]) k3) ?_
                        have e9 : [213 + (crtR n).length, 148] ++ be 20 a ++ crtR n = (213 + (crtR n).length) :: 148 :: (be 20 a ++ crtR n) := by simp only [List.cons_append, List.nil_append]
                        exact ⟨_, by rw [crtN, ← e9]; rfl, G⟩)))))
            · skip
              
              have hne : Hid (ld.length = 1 → ¬ ld[0]! < 128) := ⟨fun _ => by have h9 := of_decide_eq_false cB1; have h8 : ¬ ((ld[0] : Nat) : Int) < 128 := h9; rw [getElem!_pos ld 0 (by omega)]; omega⟩
              refine c_seq (fun K23 hK23 => ?_)
              exact (by
                refine c_region ?_
                refine l_step (y_moveV (et (gS rfl g0) rfl)) ?_
                refine l_step (y_len Hvaa.underlying95 (et g0 rfl)) ?_
                refine l_step (y_gtr (et g0 rfl) rfl) ?_
                refine l_nil ?_
                refine hK23 _ _ ?_
                refine fg5 2 4 5 6 28 (gS rfl (gS rfl (gS rfl (gS rfl (gS rfl (gS rfl (gS rfl g0))))))) (gS rfl (gS rfl (gS rfl (gS rfl (gS rfl (gS rfl g0)))))) (gS rfl (gS rfl (gS rfl (gS rfl (gS rfl g0))))) (gS rfl (gS rfl (gS rfl (gS rfl g0)))) g0 (fun g => ?_)
                refine c_cond (et g0 rfl) (fun cB2 => ?_) (fun cB2 => ?_)
                · skip
                  
                  have hl0 : 0 < ld.length := by have := of_decide_eq_true cB2; omega
                  obtain ⟨lb, lo, hla, hlb, hlr⟩ := (hBl.wv hF).at (by omega)
                  cases hla
                  refine c_seq (fun K25 hK25 => ?_)
                  exact (by
                    refine c_region ?_
                    refine l_step (y_moveV (et (gS rfl (gS rfl g0)) rfl)) ?_
                    refine l_step (y_moveV (et (gS rfl (gS rfl g0)) rfl)) ?_
                    refine l_step (y_len Hvaa.underlying95 (et g0 rfl)) ?_
                    refine l_step (y_conv Hvaa.underlying3 Hvaa.underlying5 (et g0 rfl) (wrapU_id uk8 ?_)) ?_
                    omega
                    refine l_step (y_add rfl (et g0 rfl) (wrapU_addN (a := 128) uk8 ?_)) ?_
                    omega
                    refine l_step (y_idxS Hvaa.underlying38 sz_5 (et (gS rfl (gS rfl (gS rfl (gS rfl g0)))) rfl) rfl ?_ ?_) ?_
                    omega
                    omega
                    refine l_effN (e_storeAB (et g0 rfl) rfl (et (gS rfl g0) rfl) (by omega) hO) (fun v26 w26 h26 => ?_)
                    obtain ⟨rfl, hO26, c26, z26⟩ := h26
                    have hOo := hO
                    replace G := G.chs c26 (by intro b hb; have h9 := hOo.lim b (by rw [hb]; rfl); first | exact .inr (by omega) | omega) (by intro q hq hh; exact hOn q (by rw [hq]; rfl) hh)
                    replace hF := G.fz
                    replace k2 := k2.ch c26 (by first | omega | (have h9 := hOo.lim rb rfl; omega) | exact hOo.ne (by omega))
                    replace k3 := k3.ch c26 (by first | omega | (have h9 := hOo.lim rb rfl; omega) | exact hOo.ne (by omega))
                    replace hO := hO26
                    replace U := U.cc c26 (by intro b hb; have h9 := hOo.lim b (by rw [hb]; rfl); first | exact .inr (by omega) | omega)
                    refine l_nil ?_
                    refine hK25 _ _ ?_
                    refine fg4 2 4 5 6 (gS rfl (gS rfl (gS rfl (gS rfl (gS rfl (gS rfl (gS rfl (gS rfl (gS rfl (gS rfl g0)))))))))) (gS rfl (gS rfl (gS rfl (gS rfl (gS rfl (gS rfl (gS rfl (gS rfl (gS rfl g0))))))))) (gS rfl (gS rfl (gS rfl (gS rfl (gS rfl (gS rfl (gS rfl (gS rfl g0)))))))) (gS rfl (gS rfl (gS rfl (gS rfl (gS rfl (gS rfl (gS rfl g0))))))) (fun g => ?_)
                    refine c_seq (fun K27 hK27 => ?_)
                    exact (by
                      refine c_region ?_
                      refine l_step (y_moveV (et g0 rfl)) ?_
                      refine l_step (y_len Hvaa.underlying95 (et g0 rfl)) ?_
                      refine l_step (y_assignV (et g0 rfl)) ?_
                      refine l_nil ?_
                      refine hK27 _ _ ?_
                      refine fg5 2 4 5 6 7 (gS rfl (gS rfl (gS rfl (gS rfl (gS rfl (gS rfl g0)))))) (gS rfl (gS rfl (gS rfl (gS rfl (gS rfl g0))))) (gS rfl (gS rfl (gS rfl (gS rfl g0)))) (gS rfl (gS rfl (gS rfl g0))) g0 (fun g => ?_)
                      refine c_block (fun Q28 hQ28 => ?_)
                      refine fg5 2 4 5 6 7 (gS rfl (gS rfl (gS rfl (gS rfl g0)))) (gS rfl (gS rfl (gS rfl g0))) (gS rfl (gS rfl g0)) (gS rfl g0) g0 (fun g => ?_)
                      have hbW0 : base ≤ w26.heap.size := by have := hbW; have := g7.ch.size; have := z26; omega
                      refine c_loop (fun k_ s_ W29 => ∃ (g : Nat → Value) (Hk29 : Store) (vr : Value) (i : Nat), s_ = (upd (upd (upd (upd (upd g 2 (.pointer (some ⟨b2, 0, none⟩))) 4 (.pointer (some ⟨b3, 0, none⟩))) 5 vr) 6 (.slice (some ⟨lb, lo, none⟩) ld.length lc)) 7 (.int .i64 (i : Nat))) ∧ i = k_ ∧ (i ≤ ld.length) ∧ (AB base W29.heap.size W29 vr ((128 + ld.length) :: (ld.drop i).reverse)) ∧ (∀ q, vr.ownBlock = some q → ¬ Hk29.has q) ∧ Go (fun k => base ≤ k) w26 H7 W29 Hk29) ((ld.length)) ?_ ?_
                      · exact ⟨g, _, _, ld.length, rfl, rfl, Nat.le_refl _, by rw [List.drop_length]; exact hO.wid (by have := g7.ch.size; have := z26; omega), hOn, Go.refl hF⟩
                      · skip
                        intro k_ s_ W29 hI K29 hK29
                        obtain ⟨g, Hk29, vr, i, rfl, rfl, hi, hO, hOn, V29⟩ := hI
                        have hle29 := V29.le
                        replace nb2 := V29.nb nb2 k2.lt
                        replace nb3 := V29.nb nb3 k3.lt
                        replace h1 := h1.mono hle29
                        replace hBl := hBl.mono hle29
                        replace G := G.trans V29 (by intro b hb; first | exact hb.elim | omega | (simp at hb ⊢; omega))
                        replace hF := V29.fz
                        replace k2 := k2.ch V29.ch (by omega)
                        replace k3 := k3.ch V29.ch (by omega)
                        replace U := U.cc V29.ch (by intro b hb; first | exact hb.elim | omega | (simp at hb ⊢; omega))
                        have hbW2 : base ≤ W29.heap.size := Nat.le_trans hbW0 V29.ch.size
                        refine c_seq (fun K30 hK30 => ?_)
                        refine c_seq (fun K31 hK31 => ?_)
                        exact (by
                          refine c_region ?_
                          refine l_step (y_moveV (et g0 rfl)) ?_
                          refine l_step (y_gtr (et g0 rfl) rfl) ?_
                          refine l_nil ?_
                          refine hK31 _ _ ?_
                          refine fg6 2 4 5 6 7 38 (gS rfl (gS rfl (gS rfl (gS rfl (gS rfl (gS rfl g0)))))) (gS rfl (gS rfl (gS rfl (gS rfl (gS rfl g0))))) (gS rfl (gS rfl (gS rfl (gS rfl g0)))) (gS rfl (gS rfl (gS rfl g0))) (gS rfl (gS rfl g0)) g0 (fun g => ?_)
                          refine c_cond (et g0 rfl) (fun cB3 => ?_) (fun cB3 => ?_)
                          · skip
                            
                            have hi0 : 0 < i := by have := of_decide_eq_true cB3; omega
                            obtain ⟨lb2, lo2, hla2, hlb2, hlr⟩ := (hBl.wv hF).at (by omega)
                            cases hla2
                            refine c_skip ?_
                            refine hK30 _ _ ?_
                            refine fg5 2 4 5 6 7 (gS rfl (gS rfl (gS rfl (gS rfl (gS rfl g0))))) (gS rfl (gS rfl (gS rfl (gS rfl g0)))) (gS rfl (gS rfl (gS rfl g0))) (gS rfl (gS rfl g0)) (gS rfl g0) (fun g => ?_)
                            refine c_seq (fun K33 hK33 => ?_)
                            refine c_block (fun Q34 hQ34 => ?_)
                            exact (by
                              refine c_region ?_
                              refine l_step (y_moveV (et (gS rfl (gS rfl g0)) rfl)) ?_
                              refine l_step (y_moveV (et (gS rfl (gS rfl g0)) rfl)) ?_
                              refine l_step (y_moveV (et (gS rfl (gS rfl g0)) rfl)) ?_
                              refine l_step (y_sub (et g0 rfl) rfl ((subIN (y := 1) ?_ ?_).trans (castE (show i - 1 = i - 1 from rfl)))) ?_
                              omega
                              omega
                              refine l_step (y_idxS Hvaa.underlying95 sz_5 (et (gS rfl (gS rfl g0)) rfl) (et g0 rfl) ?_ ?_) ?_
                              omega
                              omega
                              refine l_step (y_load1 one_5 (et g0 rfl) (at1 (row_byte hlr (by omega)))) ?_
                              refine l_eff (e_slice1 (k := 0) Hvaa.underlying38 sz_5 zr_5 rfl (by decide) (et g0 rfl) rfl) (fun v35 w35 h35 => ?_)
                              obtain ⟨bq35, rfl, nq35⟩ := h35
                              replace G := G.tr (Go.ofUp hF nq35.up)
                              replace V29 := V29.tr (Go.ofUp hF nq35.up)
                              replace hF := hF.up nq35.up
                              replace k2 := k2.up nq35.up
                              replace k3 := k3.up nq35.up
                              replace hO := hO.up nq35.up
                              replace U := U.tr nq35.up
                              have kq := nq35.blk
                              have hbz : base ≤ w35.heap.size := Nat.le_trans hbW2 nq35.up.size
                              have hd9 := hBl.dig _ (List.getElem_mem (show i - 1 < ld.length by omega))
                              refine l_eff (e_appB1 Hvaa.underlying38 (et (gS rfl (gS rfl (gS rfl (gS rfl (gS rfl (gS rfl g0)))))) rfl) hO (u := ld[i - 1]) (et g0 rfl) kq hd9 (by simp only [List.length_cons, List.length_reverse, List.length_drop]; omega) hbz) (fun v36 w36 h36 => ?_)
                              obtain ⟨hO36, c36, hw36⟩ := h36
                              have hOo := hO
                              have hOn9 : ∀ q, v36.ownBlock = some q → ¬ Store.has Hk29 q := fun q e hh => hw36 q (hF.lt hh) (fun e2 => hOn q e2.symm hh) e.symm
                              replace G := G.chs c36 (by intro b hb; have h9 := hOo.lim b hb.symm; first | exact .inr (by omega) | omega) (by intro q hq hh; exact hOn q hq.symm hh)
                              replace V29 := V29.chs c36 (by intro b hb; have h9 := hOo.lim b hb.symm; first | exact .inr (by omega) | omega) (by intro q hq hh; exact hOn q hq.symm hh)
                              replace hF := G.fz
                              replace k2 := k2.ch c36 (by first | omega | exact hOo.ne (by omega))
                              replace k3 := k3.ch c36 (by first | omega | exact hOo.ne (by omega))
                              replace hO := hO36
                              replace U := U.cc c36 (by intro b hb; have h9 := hOo.lim b hb.symm; first | exact .inr (by omega) | omega)
                              exact (by
                                refine l_step (y_assignV (et g0 rfl)) ?_
                                refine l_nil ?_
                                refine hQ34 _ _ _ (in_normal ?_)
                                refine hK33 _ _ ?_
                                refine fg5 2 4 5 6 7 (gS rfl (gS rfl (gS rfl (gS rfl (gS rfl (gS rfl (gS rfl (gS rfl (gS rfl (gS rfl (gS rfl (gS rfl (gS rfl g0))))))))))))) (gS rfl (gS rfl (gS rfl (gS rfl (gS rfl (gS rfl (gS rfl (gS rfl (gS rfl (gS rfl (gS rfl (gS rfl g0)))))))))))) g0 (gS rfl (gS rfl (gS rfl (gS rfl (gS rfl (gS rfl (gS rfl (gS rfl (gS rfl (gS rfl g0)))))))))) (gS rfl (gS rfl (gS rfl (gS rfl (gS rfl (gS rfl (gS rfl (gS rfl (gS rfl g0))))))))) (fun g => ?_)
                                refine c_region ?_
                                refine l_step (y_moveV (et g0 rfl)) ?_
                                refine l_step (y_sub (et g0 rfl) rfl ((subIN (y := 1) ?_ ?_).trans (castE (show i - 1 = i - 1 from rfl)))) ?_
                                omega
                                omega
                                refine l_step (y_assignV (et g0 rfl)) ?_
                                refine l_nil ?_
                                refine fK5 2 4 5 6 7 (gS rfl (gS rfl (gS rfl (gS rfl (gS rfl (gS rfl (gS rfl g0))))))) (gS rfl (gS rfl (gS rfl (gS rfl (gS rfl (gS rfl g0)))))) (gS rfl (gS rfl (gS rfl (gS rfl (gS rfl g0))))) (gS rfl (gS rfl (gS rfl (gS rfl g0)))) g0 (fun g => ?_)
                                exact hK29 (((i - 1))) _ _ (by omega) ⟨g, _, _, (i - 1), rfl, rfl, by omega, by rw [← rev_next hi0 hi, ← List.cons_append]; exact hO, hOn9, V29⟩))
                          · skip
                            
                            have hi0 : i = 0 := by have := of_decide_eq_false cB3; omega
                            subst hi0
                            rw [List.drop_zero] at hO
                            have hR : (128 + ld.length) :: ld.reverse = crtR n := by rw [← hval]; exact (crtR_big htr hBl.dig hl0 (fun h => by have := hne.out h; rwa [getElem!_pos ld 0 (by omega)] at this)).symm
                            refine c_exit ?_
                            refine hQ28 _ _ _ (in_exit ?_)
                            refine hK8 _ _ ?_
                            refine fg3 2 4 5 (gS rfl (gS rfl (gS rfl (gS rfl (gS rfl g0))))) (gS rfl (gS rfl (gS rfl (gS rfl g0)))) (gS rfl (gS rfl (gS rfl g0))) (fun g => ?_)
                            refine c_seq (fun K37 hK37 => ?_)
                            exact (by
                              refine c_region ?_
                              refine l_step (y_moveV (et g0 rfl)) ?_
                              obtain ⟨Hz38, Gz38, hlz38, bvz38, hnz38⟩ := hO.keep' G hbw
                              replace G := Gz38
                              replace hF := G.fz
                              replace h1 := h1.mono hlz38
                              replace hBl := hBl.mono hlz38
                              replace nb2 := fun hh => (hnz38 _ hh).elim nb2 (fun e => hO.ne (by omega) e)
                              replace nb3 := fun hh => (hnz38 _ hh).elim nb3 (fun e => hO.ne (by omega) e)
                              obtain ⟨ra5, rc5, rfl, hrc5, _⟩ := (bvz38.wv hF).val
                              obtain ⟨rb5, ro5, rfl, hrb5, hrr5⟩ := (bvz38.wv hF).at (by simp)
                              have hrl9 : (crtR n).length = ((128 + ld.length) :: ld.reverse).length := congrArg List.length hR.symm
                              have hx9 : ((128 + ld.length) :: ld.reverse).length ≤ 9 := by simp only [List.length_cons, List.length_reverse]; omega
                              have hq9 : 192 + (21 + ((128 + ld.length) :: ld.reverse).length) = 213 + (crtR n).length := by have h9 := hrl9; omega
                              replace bvz38 : BV _ _ ((128 + ld.length) :: ld.reverse) := bvz38
                              rw [hR] at bvz38
                              refine l_step (y_len Hvaa.underlying38 (et g0 rfl)) ?_
                              refine l_step (y_add rfl (et g0 rfl) (addIN (x := 21) ?_)) ?_
                              omega
                              refine l_step (y_conv Hvaa.underlying3 Hvaa.underlying5 (et g0 rfl) (wrapU_id uk8 ?_)) ?_
                              omega
                              refine l_step (y_add rfl (et g0 rfl) (wrapU_addN (a := 192) uk8 ?_)) ?_
                              omega
                              obtain ⟨base, hbs⟩ : ∃ base, base = W29.heap.size := ⟨_, rfl⟩
                              have hbw : w.heap.size ≤ base := by rw [hbs]; exact U.size
                              have hHb : ∀ q, Store.has Hz38 q → q < base := fun q hq => by rw [hbs]; exact hF.lt hq
                              have hlb2 : b2 < base := by rw [hbs]; exact k2.lt
                              have hlb3 : b3 < base := by rw [hbs]; exact k3.lt
                              refine l_eff (e_bytes2 (q := 213 + (crtR n).length) (r := 148) (Eq.trans (et g0 rfl) (congrArg (fun z : Nat => Value.int .u8 (z : Int)) hq9)) rfl (by omega) (by decide)) (fun v39 w39 h39 => ?_)
                              obtain ⟨hO, u39⟩ := h39
                              replace G := G.tr (Go.ofUp hF u39)
                              replace hF := hF.up u39
                              replace k2 := k2.up u39
                              replace k3 := k3.up u39
                              replace U := U.tr u39
                              rw [← hbs] at hO
                              have hbW2 := u39.size
                              exact (by
                                refine l_step (y_assignV (et g0 rfl)) ?_
                                refine l_nil ?_
                                refine hK37 _ _ ?_
                                refine fg4 2 4 5 8 (gS rfl (gS rfl (gS rfl (gS rfl (gS rfl (gS rfl (gS rfl (gS rfl (gS rfl g0))))))))) (gS rfl (gS rfl (gS rfl (gS rfl (gS rfl (gS rfl (gS rfl (gS rfl g0)))))))) (gS rfl (gS rfl (gS rfl (gS rfl (gS rfl (gS rfl (gS rfl g0))))))) g0 (fun g => ?_)
                                refine c_seq (fun K40 hK40 => ?_)
                                exact (by
                                  refine c_region ?_
                                  refine l_step (y_moveV (et g0 rfl)) ?_
                                  refine l_step (y_slA000 Hvaa.underlying25 sz_5 (et (gS rfl (gS rfl (gS rfl (gS rfl g0)))) rfl) ) ?_
                                  have hbz : base ≤ w39.heap.size := by rw [hbs]; exact hbW2
                                  refine l_eff (e_appB Hvaa.underlying38 (et (gS rfl g0) rfl) hO (l2 := be 20 a) (length_be _ _) (et g0 rfl) (k2.row (RowIn.self _)) (be_lt _ _) (by simp only [length_be, List.length_cons, List.length_nil]; omega) hbz) (fun v41 w41 h41 => ?_)
                                  obtain ⟨hO41, c41⟩ := h41
                                  have hOo := hO
                                  replace G := G.chs c41 (by intro b hb; have h9 := hOo.lim b hb.symm; first | exact .inr (by omega) | omega) (by intro q hq hh; have := hHb q hh; have := hOo.lim q hq.symm; omega)
                                  replace hF := G.fz
                                  replace k2 := k2.ch c41 (by first | omega | exact hOo.ne (by omega))
                                  replace k3 := k3.ch c41 (by first | omega | exact hOo.ne (by omega))
                                  replace hO := hO41
                                  replace U := U.cc c41 (by intro b hb; have h9 := hOo.lim b hb.symm; first | exact .inr (by omega) | omega)
                                  refine l_step (y_assignV (et g0 rfl)) ?_
                                  refine l_nil ?_
                                  refine hK40 _ _ ?_
                                  refine fg3 4 5 8 (gS rfl (gS rfl (gS rfl (gS rfl (gS rfl (gS rfl g0)))))) (gS rfl (gS rfl (gS rfl (gS rfl (gS rfl g0))))) g0 (fun g => ?_)
                                  refine c_seq (fun K42 hK42 => ?_)
                                  exact (by
                                    refine c_region ?_
                                    refine l_step (y_moveV (et g0 rfl)) ?_
                                    refine l_step (y_moveV (et (gS rfl (gS rfl g0)) rfl)) ?_
                                    replace hbz : base ≤ w41.heap.size := Nat.le_trans hbz c41.size
                                    obtain ⟨qbA, qoA, eqA, hqbA, hqrA⟩ := WV.at (by first | exact bvz38.wv hF | (rw [hrl9]; exact bvz38.wv hF)) (by rw [hrl9]; first | decide | simp)
                                    cases eqA
                                    refine l_eff (e_appB Hvaa.underlying38 (et (gS rfl g0) rfl) hO (l2 := (crtR n)) hrl9 (et g0 rfl) hqrA bvz38.dig (by simp only [length_be, List.length_append, List.length_cons, List.length_nil]; have h9 := hrl9; have h8 := hx9; omega) hbz) (fun v43 w43 h43 => ?_)
                                    obtain ⟨hO43, c43⟩ := h43
                                    have hOo := hO
                                    replace G := G.chs c43 (by intro b hb; have h9 := hOo.lim b hb.symm; first | exact .inr (by omega) | omega) (by intro q hq hh; have := hHb q hh; have := hOo.lim q hq.symm; omega)
                                    replace hF := G.fz
                                    replace k2 := k2.ch c43 (by first | omega | exact hOo.ne (by omega))
                                    replace k3 := k3.ch c43 (by first | omega | exact hOo.ne (by omega))
                                    replace hO := hO43
                                    replace U := U.cc c43 (by intro b hb; have h9 := hOo.lim b hb.symm; first | exact .inr (by omega) | omega)
                                    obtain ⟨Hz44, Gz44, hlz44, bvz44, hnz44⟩ := hO.keep' G hbw
                                    replace G := Gz44
                                    replace hF := G.fz
                                    replace h1 := h1.mono hlz44
                                    replace hBl := hBl.mono hlz44
                                    replace bvz38 := bvz38.mono hlz44
                                    replace nb2 := fun hh => (hnz44 _ hh).elim nb2 (fun e => hO.ne (by omega) e)
                                    replace nb3 := fun hh => (hnz44 _ hh).elim nb3 (fun e => hO.ne (by omega) e)
                                    refine l_eff (e_callV cal_124 (aC (et g0 rfl) aN) (yp_hashedAddr hKec hF bvz44 (by simp only [length_be, List.length_append, List.length_cons, List.length_nil]; have h9 := hrl9; have h8 := hx9; omega))) (fun v45 w45 h45 => ?_)
                                    obtain ⟨rfl, u45⟩ := h45
                                    replace G := G.tr (Go.ofUp hF u45)
                                    replace hF := hF.up u45
                                    replace k2 := k2.up u45
                                    replace k3 := k3.up u45
                                    replace U := U.tr u45
                                    refine l_effN (e_store sz_25 (et (gS rfl (gS rfl (gS rfl (gS rfl (gS rfl (gS rfl g0)))))) rfl) (cellsV (et g0 rfl) rfl) (by rw [length_bL, length_be]) (by exact one_bL _) k3 (by exact Nat.le_of_ble_eq_true rfl)) (fun v46 w46 h46 => ?_)
                                    obtain ⟨rfl, x46⟩ := h46
                                    replace k2 := k2.ch x46.ch (by omega)
                                    replace k3 := x46.blk.full (by rw [length_bL, length_be]; rfl)
                                    replace G := G.wr x46 (by first | exact .inr f3 | omega | (simp; omega)) nb3
                                    replace hF := G.fz
                                    replace U := U.st x46 f3
                                    refine l_nil ?_
                                    refine hK42 _ _ ?_
                                    refine fg1 4 (gS rfl (gS rfl (gS rfl (gS rfl (gS rfl (gS rfl g0)))))) (fun g => ?_)
                                    refine c_ret ?_
                                    repeat with_reducible refine then_ret ?_
                                    refine ret1 rfl (res_blk agg_25 sz_25 (et g0 rfl) (by rw [List.size_toArray, length_bL, length_be]) k3) ?_
                                    have e9 : [213 + (crtR n).length, 148] ++ be 20 a ++ crtR n = (213 + (crtR n).length) :: 148 :: (be 20 a ++ crtR n) := by simp only [List.cons_append, List.nil_append]
                                    exact ⟨_, by rw [crtN, ← e9]; rfl, G⟩)))))))
                · skip
                  
                  have hl0 : ld.length = 0 := by have := of_decide_eq_false cB2; omega
                  have hR : [128] = crtR n := by rw [← hval]; exact (crtR_nil hl0).symm
                  refine c_skip ?_
                  refine hK8 _ _ ?_
                  refine fg3 2 4 5 (gS rfl (gS rfl (gS rfl (gS rfl g0)))) (gS rfl (gS rfl (gS rfl g0))) (gS rfl (gS rfl g0)) (fun g => ?_)
                  refine c_seq (fun K47 hK47 => ?_)
                  exact (by
                    refine c_region ?_
                    refine l_step (y_moveV (et g0 rfl)) ?_
                    obtain ⟨Hz48, Gz48, hlz48, bvz48, hnz48⟩ := hO.keep' G hbw
                    replace G := Gz48
                    replace hF := G.fz
                    replace h1 := h1.mono hlz48
                    replace hBl := hBl.mono hlz48
                    replace nb2 := fun hh => (hnz48 _ hh).elim nb2 (fun e => hO.ne (by omega) e)
                    replace nb3 := fun hh => (hnz48 _ hh).elim nb3 (fun e => hO.ne (by omega) e)
                    have hrl9 : (crtR n).length = 1 := congrArg List.length hR.symm
                    have hx9 : 1 ≤ 9 := by decide
                    have hq9 : 192 + (21 + 1) = 213 + (crtR n).length := by have h9 := hrl9; omega
                    replace bvz48 : BV _ _ [128] := bvz48
                    rw [hR] at bvz48
                    refine l_step (y_len Hvaa.underlying38 (et g0 rfl)) ?_
                    refine l_step (y_add rfl (et g0 rfl) (addIN (x := 21) ?_)) ?_
                    omega
                    refine l_step (y_conv Hvaa.underlying3 Hvaa.underlying5 (et g0 rfl) (wrapU_id uk8 ?_)) ?_
                    omega
                    refine l_step (y_add rfl (et g0 rfl) (wrapU_addN (a := 192) uk8 ?_)) ?_
                    omega
                    obtain ⟨base, hbs⟩ : ∃ base, base = w7.heap.size := ⟨_, rfl⟩
                    have hbw : w.heap.size ≤ base := by rw [hbs]; exact U.size
                    have hHb : ∀ q, Store.has Hz48 q → q < base := fun q hq => by rw [hbs]; exact hF.lt hq
                    have hlb2 : b2 < base := by rw [hbs]; exact k2.lt
                    have hlb3 : b3 < base := by rw [hbs]; exact k3.lt
                    refine l_eff (e_bytes2 (q := 213 + (crtR n).length) (r := 148) (Eq.trans (et g0 rfl) (congrArg (fun z : Nat => Value.int .u8 (z : Int)) hq9)) rfl (by omega) (by decide)) (fun v49 w49 h49 => ?_)
                    obtain ⟨hO, u49⟩ := h49
                    replace G := G.tr (Go.ofUp hF u49)
                    replace hF := hF.up u49
                    replace k2 := k2.up u49
                    replace k3 := k3.up u49
                    replace U := U.tr u49
                    rw [← hbs] at hO
                    have hbW2 := u49.size
                    exact (by
                      refine l_step (y_assignV (et g0 rfl)) ?_
                      refine l_nil ?_
                      refine hK47 _ _ ?_
                      refine fg4 2 4 5 8 (gS rfl (gS rfl (gS rfl (gS rfl (gS rfl (gS rfl (gS rfl (gS rfl (gS rfl g0))))))))) (gS rfl (gS rfl (gS rfl (gS rfl (gS rfl (gS rfl (gS rfl (gS rfl g0)))))))) (gS rfl (gS rfl (gS rfl (gS rfl (gS rfl (gS rfl (gS rfl g0))))))) g0 (fun g => ?_)
                      refine c_seq (fun K50 hK50 => ?_)
                      exact (by
                        refine c_region ?_
                        refine l_step (y_moveV (et g0 rfl)) ?_
                        refine l_step (y_slA000 Hvaa.underlying25 sz_5 (et (gS rfl (gS rfl (gS rfl (gS rfl g0)))) rfl) ) ?_
                        have hbz : base ≤ w49.heap.size := by rw [hbs]; exact hbW2
                        refine l_eff (e_appB Hvaa.underlying38 (et (gS rfl g0) rfl) hO (l2 := be 20 a) (length_be _ _) (et g0 rfl) (k2.row (RowIn.self _)) (be_lt _ _) (by simp only [length_be, List.length_cons, List.length_nil]; omega) hbz) (fun v51 w51 h51 => ?_)
                        obtain ⟨hO51, c51⟩ := h51
                        have hOo := hO
                        replace G := G.chs c51 (by intro b hb; have h9 := hOo.lim b hb.symm; first | exact .inr (by omega) | omega) (by intro q hq hh; have := hHb q hh; have := hOo.lim q hq.symm; omega)
                        replace hF := G.fz
                        replace k2 := k2.ch c51 (by first | omega | exact hOo.ne (by omega))
                        replace k3 := k3.ch c51 (by first | omega | exact hOo.ne (by omega))
                        replace hO := hO51
                        replace U := U.cc c51 (by intro b hb; have h9 := hOo.lim b hb.symm; first | exact .inr (by omega) | omega)
                        refine l_step (y_assignV (et g0 rfl)) ?_
                        refine l_nil ?_
                        refine hK50 _ _ ?_
                        refine fg3 4 5 8 (gS rfl (gS rfl (gS rfl (gS rfl (gS rfl (gS rfl g0)))))) (gS rfl (gS rfl (gS rfl (gS rfl (gS rfl g0))))) g0 (fun g => ?_)
                        refine c_seq (fun K52 hK52 => ?_)
                        exact (by
                          refine c_region ?_
                          refine l_step (y_moveV (et g0 rfl)) ?_
                          refine l_step (y_moveV (et (gS rfl (gS rfl g0)) rfl)) ?_
                          replace hbz : base ≤ w51.heap.size := Nat.le_trans hbz c51.size
                          obtain ⟨qbA, qoA, eqA, hqbA, hqrA⟩ := WV.at (by first | exact bvz48.wv hF | (rw [hrl9]; exact bvz48.wv hF)) (by rw [hrl9]; first | decide | simp)
                          cases eqA
                          refine l_eff (e_appB Hvaa.underlying38 (et (gS rfl g0) rfl) hO (l2 := (crtR n)) hrl9 (et g0 rfl) hqrA bvz48.dig (by simp only [length_be, List.length_append, List.length_cons, List.length_nil]; have h9 := hrl9; have h8 := hx9; omega) hbz) (fun v53 w53 h53 => ?_)
                          obtain ⟨hO53, c53⟩ := h53
                          have hOo := hO
                          replace G := G.chs c53 (by intro b hb; have h9 := hOo.lim b hb.symm; first | exact .inr (by omega) | omega) (by intro q hq hh; have := hHb q hh; have := hOo.lim q hq.symm; omega)
                          replace hF := G.fz
                          replace k2 := k2.ch c53 (by first | omega | exact hOo.ne (by omega))
                          replace k3 := k3.ch c53 (by first | omega | exact hOo.ne (by omega))
                          replace hO := hO53
                          replace U := U.cc c53 (by intro b hb; have h9 := hOo.lim b hb.symm; first | exact .inr (by omega) | omega)
                          obtain ⟨Hz54, Gz54, hlz54, bvz54, hnz54⟩ := hO.keep' G hbw
                          replace G := Gz54
                          replace hF := G.fz
                          replace h1 := h1.mono hlz54
                          replace hBl := hBl.mono hlz54
                          replace bvz48 := bvz48.mono hlz54
                          replace nb2 := fun hh => (hnz54 _ hh).elim nb2 (fun e => hO.ne (by omega) e)
                          replace nb3 := fun hh => (hnz54 _ hh).elim nb3 (fun e => hO.ne (by omega) e)
                          refine l_eff (e_callV cal_124 (aC (et g0 rfl) aN) (yp_hashedAddr hKec hF bvz54 (by simp only [length_be, List.length_append, List.length_cons, List.length_nil]; have h9 := hrl9; have h8 := hx9; omega))) (fun v55 w55 h55 => ?_)
                          obtain ⟨rfl, u55⟩ := h55
                          replace G := G.tr (Go.ofUp hF u55)
                          replace hF := hF.up u55
                          replace k2 := k2.up u55
                          replace k3 := k3.up u55
                          replace U := U.tr u55
                          refine l_effN (e_store sz_25 (et (gS rfl (gS rfl (gS rfl (gS rfl (gS rfl (gS rfl g0)))))) rfl) (cellsV (et g0 rfl) rfl) (by rw [length_bL, length_be]) (by exact one_bL _) k3 (by exact Nat.le_of_ble_eq_true rfl)) (fun v56 w56 h56 => ?_)
                          obtain ⟨rfl, x56⟩ := h56
                          replace k2 := k2.ch x56.ch (by omega)
                          replace k3 := x56.blk.full (by rw [length_bL, length_be]; rfl)
                          replace G := G.wr x56 (by first | exact .inr f3 | omega | (simp; omega)) nb3
                          replace hF := G.fz
                          replace U := U.st x56 f3
                          refine l_nil ?_
                          refine hK52 _ _ ?_
                          refine fg1 4 (gS rfl (gS rfl (gS rfl (gS rfl (gS rfl (gS rfl g0)))))) (fun g => ?_)
                          refine c_ret ?_
                          repeat with_reducible refine then_ret ?_
                          refine ret1 rfl (res_blk agg_25 sz_25 (et g0 rfl) (by rw [List.size_toArray, length_bL, length_be]) k3) ?_
                          have e9 : [213 + (crtR n).length, 148] ++ be 20 a ++ crtR n = (213 + (crtR n).length) :: 148 :: (be 20 a ++ crtR n) := by simp only [List.cons_append, List.nil_append]
                          exact ⟨_, by rw [crtN, ← e9]; rfl, G⟩)))))
          · skip
            have hl1 : ¬ ld.length = 1 := by have := of_decide_eq_false q10; omega
            have hne : Hid (ld.length = 1 → ¬ ld[0]! < 128) := ⟨fun h => absurd h hl1⟩
            refine l_gskip (j := 3) (t := 15) (by exact rfl) (by exact rfl) (et g0 rfl) (by decide) (by decide) ?_
            refine l_gskip (j := 3) (t := 15) (by exact rfl) (by exact rfl) (et (gS rfl g0) rfl) (by decide) (by decide) ?_
            refine l_gskip (j := 3) (t := 15) (by exact rfl) (by exact rfl) (et (gS rfl (gS rfl g0)) rfl) (by decide) (by decide) ?_
            refine l_gskip (j := 3) (t := 15) (by exact rfl) (by exact rfl) (et (gS rfl (gS rfl (gS rfl g0))) rfl) (by decide) (by decide) ?_
            refine l_step (y_pickF (et (gS rfl (gS rfl (gS rfl (gS rfl g0)))) rfl) rfl) ?_
            refine l_nil ?_
            refine hK9 _ _ ?_
            refine fg5 2 4 5 6 20 (gS rfl (gS rfl (gS rfl (gS rfl (gS rfl (gS rfl (gS rfl (gS rfl (gS rfl (gS rfl (gS rfl (gS rfl (gS rfl g0))))))))))))) (gS rfl (gS rfl (gS rfl (gS rfl (gS rfl (gS rfl (gS rfl (gS rfl (gS rfl (gS rfl (gS rfl (gS rfl g0)))))))))))) (gS rfl (gS rfl (gS rfl (gS rfl (gS rfl (gS rfl (gS rfl (gS rfl (gS rfl (gS rfl (gS rfl g0))))))))))) (gS rfl (gS rfl (gS rfl (gS rfl (gS rfl (gS rfl (gS rfl (gS rfl (gS rfl (gS rfl g0)))))))))) g0 (fun g => ?_)
            refine c_false (et g0 rfl) rfl ?_
            refine c_seq (fun K58 hK58 => ?_)
            exact (by
              refine c_region ?_
              refine l_step (y_moveV (et (gS rfl g0) rfl)) ?_
              refine l_step (y_len Hvaa.underlying95 (et g0 rfl)) ?_
              refine l_step (y_gtr (et g0 rfl) rfl) ?_
              refine l_nil ?_
              refine hK58 _ _ ?_
              refine fg5 2 4 5 6 28 (gS rfl (gS rfl (gS rfl (gS rfl (gS rfl (gS rfl (gS rfl g0))))))) (gS rfl (gS rfl (gS rfl (gS rfl (gS rfl (gS rfl g0)))))) (gS rfl (gS rfl (gS rfl (gS rfl (gS rfl g0))))) (gS rfl (gS rfl (gS rfl (gS rfl g0)))) g0 (fun g => ?_)
              refine c_cond (et g0 rfl) (fun cB2 => ?_) (fun cB2 => ?_)
              · skip
                
                have hl0 : 0 < ld.length := by have := of_decide_eq_true cB2; omega
                obtain ⟨lb, lo, hla, hlb, hlr⟩ := (hBl.wv hF).at (by omega)
                cases hla
                refine c_seq (fun K60 hK60 => ?_)
                exact (by
                  refine c_region ?_
                  refine l_step (y_moveV (et (gS rfl (gS rfl g0)) rfl)) ?_
                  refine l_step (y_moveV (et (gS rfl (gS rfl g0)) rfl)) ?_
                  refine l_step (y_len Hvaa.underlying95 (et g0 rfl)) ?_
                  refine l_step (y_conv Hvaa.underlying3 Hvaa.underlying5 (et g0 rfl) (wrapU_id uk8 ?_)) ?_
                  omega
                  refine l_step (y_add rfl (et g0 rfl) (wrapU_addN (a := 128) uk8 ?_)) ?_
                  omega
                  refine l_step (y_idxS Hvaa.underlying38 sz_5 (et (gS rfl (gS rfl (gS rfl (gS rfl g0)))) rfl) rfl ?_ ?_) ?_
                  omega
                  omega
                  refine l_effN (e_storeAB (et g0 rfl) rfl (et (gS rfl g0) rfl) (by omega) hO) (fun v61 w61 h61 => ?_)
                  obtain ⟨rfl, hO61, c61, z61⟩ := h61
                  have hOo := hO
                  replace G := G.chs c61 (by intro b hb; have h9 := hOo.lim b (by rw [hb]; rfl); first | exact .inr (by omega) | omega) (by intro q hq hh; exact hOn q (by rw [hq]; rfl) hh)
                  replace hF := G.fz
                  replace k2 := k2.ch c61 (by first | omega | (have h9 := hOo.lim rb rfl; omega) | exact hOo.ne (by omega))
                  replace k3 := k3.ch c61 (by first | omega | (have h9 := hOo.lim rb rfl; omega) | exact hOo.ne (by omega))
                  replace hO := hO61
                  replace U := U.cc c61 (by intro b hb; have h9 := hOo.lim b (by rw [hb]; rfl); first | exact .inr (by omega) | omega)
                  refine l_nil ?_
                  refine hK60 _ _ ?_
                  refine fg4 2 4 5 6 (gS rfl (gS rfl (gS rfl (gS rfl (gS rfl (gS rfl (gS rfl (gS rfl (gS rfl (gS rfl g0)))))))))) (gS rfl (gS rfl (gS rfl (gS rfl (gS rfl (gS rfl (gS rfl (gS rfl (gS rfl g0))))))))) (gS rfl (gS rfl (gS rfl (gS rfl (gS rfl (gS rfl (gS rfl (gS rfl g0)))))))) (gS rfl (gS rfl (gS rfl (gS rfl (gS rfl (gS rfl (gS rfl g0))))))) (fun g => ?_)
                  refine c_seq (fun K62 hK62 => ?_)
                  exact (by
                    refine c_region ?_
                    refine l_step (y_moveV (et g0 rfl)) ?_
                    refine l_step (y_len Hvaa.underlying95 (et g0 rfl)) ?_
                    refine l_step (y_assignV (et g0 rfl)) ?_
                    refine l_nil ?_
                    refine hK62 _ _ ?_
                    refine fg5 2 4 5 6 7 (gS rfl (gS rfl (gS rfl (gS rfl (gS rfl (gS rfl g0)))))) (gS rfl (gS rfl (gS rfl (gS rfl (gS rfl g0))))) (gS rfl (gS rfl (gS rfl (gS rfl g0)))) (gS rfl (gS rfl (gS rfl g0))) g0 (fun g => ?_)
                    refine c_block (fun Q63 hQ63 => ?_)
                    refine fg5 2 4 5 6 7 (gS rfl (gS rfl (gS rfl (gS rfl g0)))) (gS rfl (gS rfl (gS rfl g0))) (gS rfl (gS rfl g0)) (gS rfl g0) g0 (fun g => ?_)
                    have hbW0 : base ≤ w61.heap.size := by have := hbW; have := g7.ch.size; have := z61; omega
                    refine c_loop (fun k_ s_ W64 => ∃ (g : Nat → Value) (Hk64 : Store) (vr : Value) (i : Nat), s_ = (upd (upd (upd (upd (upd g 2 (.pointer (some ⟨b2, 0, none⟩))) 4 (.pointer (some ⟨b3, 0, none⟩))) 5 vr) 6 (.slice (some ⟨lb, lo, none⟩) ld.length lc)) 7 (.int .i64 (i : Nat))) ∧ i = k_ ∧ (i ≤ ld.length) ∧ (AB base W64.heap.size W64 vr ((128 + ld.length) :: (ld.drop i).reverse)) ∧ (∀ q, vr.ownBlock = some q → ¬ Hk64.has q) ∧ Go (fun k => base ≤ k) w61 H7 W64 Hk64) ((ld.length)) ?_ ?_
                    · exact ⟨g, _, _, ld.length, rfl, rfl, Nat.le_refl _, by rw [List.drop_length]; exact hO.wid (by have := g7.ch.size; have := z61; omega), hOn, Go.refl hF⟩
                    · skip
                      intro k_ s_ W64 hI K64 hK64
                      obtain ⟨g, Hk64, vr, i, rfl, rfl, hi, hO, hOn, V64⟩ := hI
                      have hle64 := V64.le
                      replace nb2 := V64.nb nb2 k2.lt
                      replace nb3 := V64.nb nb3 k3.lt
                      replace h1 := h1.mono hle64
                      replace hBl := hBl.mono hle64
                      replace G := G.trans V64 (by intro b hb; first | exact hb.elim | omega | (simp at hb ⊢; omega))
                      replace hF := V64.fz
                      replace k2 := k2.ch V64.ch (by omega)
                      replace k3 := k3.ch V64.ch (by omega)
                      replace U := U.cc V64.ch (by intro b hb; first | exact hb.elim | omega | (simp at hb ⊢; omega))
                      have hbW2 : base ≤ W64.heap.size := Nat.le_trans hbW0 V64.ch.size
                      refine c_seq (fun K65 hK65 => ?_)
                      refine c_seq (fun K66 hK66 => ?_)
                      exact (by
                        refine c_region ?_
                        refine l_step (y_moveV (et g0 rfl)) ?_
                        refine l_step (y_gtr (et g0 rfl) rfl) ?_
                        refine l_nil ?_
                        refine hK66 _ _ ?_
                        refine fg6 2 4 5 6 7 38 (gS rfl (gS rfl (gS rfl (gS rfl (gS rfl (gS rfl g0)))))) (gS rfl (gS rfl (gS rfl (gS rfl (gS rfl g0))))) (gS rfl (gS rfl (gS rfl (gS rfl g0)))) (gS rfl (gS rfl (gS rfl g0))) (gS rfl (gS rfl g0)) g0 (fun g => ?_)
                        refine c_cond (et g0 rfl) (fun cB3 => ?_) (fun cB3 => ?_)
                        · skip
                          
                          have hi0 : 0 < i := by have := of_decide_eq_true cB3; omega
                          obtain ⟨lb2, lo2, hla2, hlb2, hlr⟩ := (hBl.wv hF).at (by omega)
                          cases hla2
                          refine c_skip ?_
                          refine hK65 _ _ ?_
                          refine fg5 2 4 5 6 7 (gS rfl (gS rfl (gS rfl (gS rfl (gS rfl g0))))) (gS rfl (gS rfl (gS rfl (gS rfl g0)))) (gS rfl (gS rfl (gS rfl g0))) (gS rfl (gS rfl g0)) (gS rfl g0) (fun g => ?_)
                          refine c_seq (fun K68 hK68 => ?_)
                          refine c_block (fun Q69 hQ69 => ?_)
                          exact (by
                            refine c_region ?_
                            refine l_step (y_moveV (et (gS rfl (gS rfl g0)) rfl)) ?_
                            refine l_step (y_moveV (et (gS rfl (gS rfl g0)) rfl)) ?_
                            refine l_step (y_moveV (et (gS rfl (gS rfl g0)) rfl)) ?_
                            refine l_step (y_sub (et g0 rfl) rfl ((subIN (y := 1) ?_ ?_).trans (castE (show i - 1 = i - 1 from rfl)))) ?_
                            omega
                            omega
                            refine l_step (y_idxS Hvaa.underlying95 sz_5 (et (gS rfl (gS rfl g0)) rfl) (et g0 rfl) ?_ ?_) ?_
                            omega
                            omega
                            refine l_step (y_load1 one_5 (et g0 rfl) (at1 (row_byte hlr (by omega)))) ?_
                            refine l_eff (e_slice1 (k := 0) Hvaa.underlying38 sz_5 zr_5 rfl (by decide) (et g0 rfl) rfl) (fun v70 w70 h70 => ?_)
                            obtain ⟨bq70, rfl, nq70⟩ := h70
                            replace G := G.tr (Go.ofUp hF nq70.up)
                            replace V64 := V64.tr (Go.ofUp hF nq70.up)
                            replace hF := hF.up nq70.up
                            replace k2 := k2.up nq70.up
                            replace k3 := k3.up nq70.up
                            replace hO := hO.up nq70.up
                            replace U := U.tr nq70.up
                            have kq := nq70.blk
                            have hbz : base ≤ w70.heap.size := Nat.le_trans hbW2 nq70.up.size
                            have hd9 := hBl.dig _ (List.getElem_mem (show i - 1 < ld.length by omega))
                            refine l_eff (e_appB1 Hvaa.underlying38 (et (gS rfl (gS rfl (gS rfl (gS rfl (gS rfl (gS rfl g0)))))) rfl) hO (u := ld[i - 1]) (et g0 rfl) kq hd9 (by simp only [List.length_cons, List.length_reverse, List.length_drop]; omega) hbz) (fun v71 w71 h71 => ?_)
                            obtain ⟨hO71, c71, hw71⟩ := h71
                            have hOo := hO
                            have hOn9 : ∀ q, v71.ownBlock = some q → ¬ Store.has Hk64 q := fun q e hh => hw71 q (hF.lt hh) (fun e2 => hOn q e2.symm hh) e.symm
                            replace G := G.chs c71 (by intro b hb; have h9 := hOo.lim b hb.symm; first | exact .inr (by omega) | omega) (by intro q hq hh; exact hOn q hq.symm hh)
                            replace V64 := V64.chs c71 (by intro b hb; have h9 := hOo.lim b hb.symm; first | exact .inr (by omega) | omega) (by intro q hq hh; exact hOn q hq.symm hh)
                            replace hF := G.fz
                            replace k2 := k2.ch c71 (by first | omega | exact hOo.ne (by omega))
                            replace k3 := k3.ch c71 (by first | omega | exact hOo.ne (by omega))
                            replace hO := hO71
                            replace U := U.cc c71 (by intro b hb; have h9 := hOo.lim b hb.symm; first | exact .inr (by omega) | omega)
                            exact (by
                              refine l_step (y_assignV (et g0 rfl)) ?_
                              refine l_nil ?_
                              refine hQ69 _ _ _ (in_normal ?_)
                              refine hK68 _ _ ?_
                              refine fg5 2 4 5 6 7 (gS rfl (gS rfl (gS rfl (gS rfl (gS rfl (gS rfl (gS rfl (gS rfl (gS rfl (gS rfl (gS rfl (gS rfl (gS rfl g0))))))))))))) (gS rfl (gS rfl (gS rfl (gS rfl (gS rfl (gS rfl (gS rfl (gS rfl (gS rfl (gS rfl (gS rfl (gS rfl g0)))))))))))) g0 (gS rfl (gS rfl (gS rfl (gS rfl (gS rfl (gS rfl (gS rfl (gS rfl (gS rfl (gS rfl g0)))))))))) (gS rfl (gS rfl (gS rfl (gS rfl (gS rfl (gS rfl (gS rfl (gS rfl (gS rfl g0))))))))) (fun g => ?_)
                              refine c_region ?_
                              refine l_step (y_moveV (et g0 rfl)) ?_
                              refine l_step (y_sub (et g0 rfl) rfl ((subIN (y := 1) ?_ ?_).trans (castE (show i - 1 = i - 1 from rfl)))) ?_
                              omega
                              omega
                              refine l_step (y_assignV (et g0 rfl)) ?_
                              refine l_nil ?_
                              refine fK5 2 4 5 6 7 (gS rfl (gS rfl (gS rfl (gS rfl (gS rfl (gS rfl (gS rfl g0))))))) (gS rfl (gS rfl (gS rfl (gS rfl (gS rfl (gS rfl g0)))))) (gS rfl (gS rfl (gS rfl (gS rfl (gS rfl g0))))) (gS rfl (gS rfl (gS rfl (gS rfl g0)))) g0 (fun g => ?_)
                              exact hK64 (((i - 1))) _ _ (by omega) ⟨g, _, _, (i - 1), rfl, rfl, by omega, by rw [← rev_next hi0 hi, ← List.cons_append]; exact hO, hOn9, V64⟩))
                        · skip
                          
                          have hi0 : i = 0 := by have := of_decide_eq_false cB3; omega
                          subst hi0
                          rw [List.drop_zero] at hO
                          have hR : (128 + ld.length) :: ld.reverse = crtR n := by rw [← hval]; exact (crtR_big htr hBl.dig hl0 (fun h => by have := hne.out h; rwa [getElem!_pos ld 0 (by omega)] at this)).symm
                          refine c_exit ?_
                          refine hQ63 _ _ _ (in_exit ?_)
                          refine hK8 _ _ ?_
                          refine fg3 2 4 5 (gS rfl (gS rfl (gS rfl (gS rfl (gS rfl g0))))) (gS rfl (gS rfl (gS rfl (gS rfl g0)))) (gS rfl (gS rfl (gS rfl g0))) (fun g => ?_)
                          refine c_seq (fun K72 hK72 => ?_)
                          exact (by
                            refine c_region ?_
                            refine l_step (y_moveV (et g0 rfl)) ?_
                            obtain ⟨Hz73, Gz73, hlz73, bvz73, hnz73⟩ := hO.keep' G hbw
                            replace G := Gz73
                            replace hF := G.fz
                            replace h1 := h1.mono hlz73
                            replace hBl := hBl.mono hlz73
                            replace nb2 := fun hh => (hnz73 _ hh).elim nb2 (fun e => hO.ne (by omega) e)
                            replace nb3 := fun hh => (hnz73 _ hh).elim nb3 (fun e => hO.ne (by omega) e)
                            obtain ⟨ra5, rc5, rfl, hrc5, _⟩ := (bvz73.wv hF).val
                            obtain ⟨rb5, ro5, rfl, hrb5, hrr5⟩ := (bvz73.wv hF).at (by simp)
                            have hrl9 : (crtR n).length = ((128 + ld.length) :: ld.reverse).length := congrArg List.length hR.symm
                            have hx9 : ((128 + ld.length) :: ld.reverse).length ≤ 9 := by simp only [List.length_cons, List.length_reverse]; omega
                            have hq9 : 192 + (21 + ((128 + ld.length) :: ld.reverse).length) = 213 + (crtR n).length := by have h9 := hrl9; omega
                            replace bvz73 : BV _ _ ((128 + ld.length) :: ld.reverse) := bvz73
                            rw [hR] at bvz73
                            refine l_step (y_len Hvaa.underlying38 (et g0 rfl)) ?_
                            refine l_step (y_add rfl (et g0 rfl) (addIN (x := 21) ?_)) ?_
                            omega
                            refine l_step (y_conv Hvaa.underlying3 Hvaa.underlying5 (et g0 rfl) (wrapU_id uk8 ?_)) ?_
                            omega
                            refine l_step (y_add rfl (et g0 rfl) (wrapU_addN (a := 192) uk8 ?_)) ?_
                            omega
                            obtain ⟨base, hbs⟩ : ∃ base, base = W64.heap.size := ⟨_, rfl⟩
                            have hbw : w.heap.size ≤ base := by rw [hbs]; exact U.size
                            have hHb : ∀ q, Store.has Hz73 q → q < base := fun q hq => by rw [hbs]; exact hF.lt hq
                            have hlb2 : b2 < base := by rw [hbs]; exact k2.lt
                            have hlb3 : b3 < base := by rw [hbs]; exact k3.lt
                            refine l_eff (e_bytes2 (q := 213 + (crtR n).length) (r := 148) (Eq.trans (et g0 rfl) (congrArg (fun z : Nat => Value.int .u8 (z : Int)) hq9)) rfl (by omega) (by decide)) (fun v74 w74 h74 => ?_)
                            obtain ⟨hO, u74⟩ := h74
                            replace G := G.tr (Go.ofUp hF u74)
                            replace hF := hF.up u74
                            replace k2 := k2.up u74
                            replace k3 := k3.up u74
                            replace U := U.tr u74
                            rw [← hbs] at hO
                            have hbW2 := u74.size
                            exact (by
                              refine l_step (y_assignV (et g0 rfl)) ?_
                              refine l_nil ?_
                              refine hK72 _ _ ?_
                              refine fg4 2 4 5 8 (gS rfl (gS rfl (gS rfl (gS rfl (gS rfl (gS rfl (gS rfl (gS rfl (gS rfl g0))))))))) (gS rfl (gS rfl (gS rfl (gS rfl (gS rfl (gS rfl (gS rfl (gS rfl g0)))))))) (gS rfl (gS rfl (gS rfl (gS rfl (gS rfl (gS rfl (gS rfl g0))))))) g0 (fun g => ?_)
                              refine c_seq (fun K75 hK75 => ?_)
                              exact (by
                                refine c_region ?_
                                refine l_step (y_moveV (et g0 rfl)) ?_
                                refine l_step (y_slA000 Hvaa.underlying25 sz_5 (et (gS rfl (gS rfl (gS rfl (gS rfl g0)))) rfl) ) ?_
                                have hbz : base ≤ w74.heap.size := by rw [hbs]; exact hbW2
                                refine l_eff (e_appB Hvaa.underlying38 (et (gS rfl g0) rfl) hO (l2 := be 20 a) (length_be _ _) (et g0 rfl) (k2.row (RowIn.self _)) (be_lt _ _) (by simp only [length_be, List.length_cons, List.length_nil]; omega) hbz) (fun v76 w76 h76 => ?_)
                                obtain ⟨hO76, c76⟩ := h76
                                have hOo := hO
                                replace G := G.chs c76 (by intro b hb; have h9 := hOo.lim b hb.symm; first | exact .inr (by omega) | omega) (by intro q hq hh; have := hHb q hh; have := hOo.lim q hq.symm; omega)
                                replace hF := G.fz
                                replace k2 := k2.ch c76 (by first | omega | exact hOo.ne (by omega))
                                replace k3 := k3.ch c76 (by first | omega | exact hOo.ne (by omega))
                                replace hO := hO76
                                replace U := U.cc c76 (by intro b hb; have h9 := hOo.lim b hb.symm; first | exact .inr (by omega) | omega)
                                refine l_step (y_assignV (et g0 rfl)) ?_
                                refine l_nil ?_
                                refine hK75 _ _ ?_
                                refine fg3 4 5 8 (gS rfl (gS rfl (gS rfl (gS rfl (gS rfl (gS rfl g0)))))) (gS rfl (gS rfl (gS rfl (gS rfl (gS rfl g0))))) g0 (fun g => ?_)
                                refine c_seq (fun K77 hK77 => ?_)
                                exact (by
                                  refine c_region ?_
                                  refine l_step (y_moveV (et g0 rfl)) ?_
                                  refine l_step (y_moveV (et (gS rfl (gS rfl g0)) rfl)) ?_
                                  replace hbz : base ≤ w76.heap.size := Nat.le_trans hbz c76.size
                                  obtain ⟨qbA, qoA, eqA, hqbA, hqrA⟩ := WV.at (by first | exact bvz73.wv hF | (rw [hrl9]; exact bvz73.wv hF)) (by rw [hrl9]; first | decide | simp)
                                  cases eqA
                                  refine l_eff (e_appB Hvaa.underlying38 (et (gS rfl g0) rfl) hO (l2 := (crtR n)) hrl9 (et g0 rfl) hqrA bvz73.dig (by simp only [length_be, List.length_append, List.length_cons, List.length_nil]; have h9 := hrl9; have h8 := hx9; omega) hbz) (fun v78 w78 h78 => ?_)
                                  obtain ⟨hO78, c78⟩ := h78
                                  have hOo := hO
                                  replace G := G.chs c78 (by intro b hb; have h9 := hOo.lim b hb.symm; first | exact .inr (by omega) | omega) (by intro q hq hh; have := hHb q hh; have := hOo.lim q hq.symm; omega)
                                  replace hF := G.fz
                                  replace k2 := k2.ch c78 (by first | omega | exact hOo.ne (by omega))
                                  replace k3 := k3.ch c78 (by first | omega | exact hOo.ne (by omega))
                                  replace hO := hO78
                                  replace U := U.cc c78 (by intro b hb; have h9 := hOo.lim b hb.symm; first | exact .inr (by omega) | omega)
                                  obtain ⟨Hz79, Gz79, hlz79, bvz79, hnz79⟩ := hO.keep' G hbw
                                  replace G := Gz79
                                  replace hF := G.fz
                                  replace h1 := h1.mono hlz79
                                  replace hBl := hBl.mono hlz79
                                  replace bvz73 := bvz73.mono hlz79
                                  replace nb2 := fun hh => (hnz79 _ hh).elim nb2 (fun e => hO.ne (by omega) e)
                                  replace nb3 := fun hh => (hnz79 _ hh).elim nb3 (fun e => hO.ne (by omega) e)
                                  refine l_eff (e_callV cal_124 (aC (et g0 rfl) aN) (yp_hashedAddr hKec hF bvz79 (by simp only [length_be, List.length_append, List.length_cons, List.length_nil]; have h9 := hrl9; have h8 := hx9; omega))) (fun v80 w80 h80 => ?_)
                                  obtain ⟨rfl, u80⟩ := h80
                                  replace G := G.tr (Go.ofUp hF u80)
                                  replace hF := hF.up u80
                                  replace k2 := k2.up u80
                                  replace k3 := k3.up u80
                                  replace U := U.tr u80
                                  refine l_effN (e_store sz_25 (et (gS rfl (gS rfl (gS rfl (gS rfl (gS rfl (gS rfl g0)))))) rfl) (cellsV (et g0 rfl) rfl) (by rw [length_bL, length_be]) (by exact one_bL _) k3 (by exact Nat.le_of_ble_eq_true rfl)) (fun v81 w81 h81 => ?_)
                                  obtain ⟨rfl, x81⟩ := h81
                                  replace k2 := k2.ch x81.ch (by omega)
                                  replace k3 := x81.blk.full (by rw [length_bL, length_be]; rfl)
                                  replace G := G.wr x81 (by first | exact .inr f3 | omega | (simp; omega)) nb3
                                  replace hF := G.fz
                                  replace U := U.st x81 f3
                                  refine l_nil ?_
                                  refine hK77 _ _ ?_
                                  refine fg1 4 (gS rfl (gS rfl (gS rfl (gS rfl (gS rfl (gS rfl g0)))))) (fun g => ?_)
                                  refine c_ret ?_
                                  repeat with_reducible refine then_ret ?_
                                  refine ret1 rfl (res_blk agg_25 sz_25 (et g0 rfl) (by rw [List.size_toArray, length_bL, length_be]) k3) ?_
                                  have e9 : [213 + (crtR n).length, 148] ++ be 20 a ++ crtR n = (213 + (crtR n).length) :: 148 :: (be 20 a ++ crtR n) := by simp only [List.cons_append, List.nil_append]
                                  exact ⟨_, by rw [crtN, ← e9]; rfl, G⟩)))))))
              · skip
                
                have hl0 : ld.length = 0 := by have := of_decide_eq_false cB2; omega
                have hR : [128] = crtR n := by rw [← hval]; exact (crtR_nil hl0).symm
                refine c_skip ?_
                refine hK8 _ _ ?_
                refine fg3 2 4 5 (gS rfl (gS rfl (gS rfl (gS rfl g0)))) (gS rfl (gS rfl (gS rfl g0))) (gS rfl (gS rfl g0)) (fun g => ?_)
                refine c_seq (fun K82 hK82 => ?_)
                exact (by
                  refine c_region ?_
                  refine l_step (y_moveV (et g0 rfl)) ?_
                  obtain ⟨Hz83, Gz83, hlz83, bvz83, hnz83⟩ := hO.keep' G hbw
                  replace G := Gz83
                  replace hF := G.fz
                  replace h1 := h1.mono hlz83
                  replace hBl := hBl.mono hlz83
                  replace nb2 := fun hh => (hnz83 _ hh).elim nb2 (fun e => hO.ne (by omega) e)
                  replace nb3 := fun hh => (hnz83 _ hh).elim nb3 (fun e => hO.ne (by omega) e)
                  have hrl9 : (crtR n).length = 1 := congrArg List.length hR.symm
                  have hx9 : 1 ≤ 9 := by decide
                  have hq9 : 192 + (21 + 1) = 213 + (crtR n).length := by have h9 := hrl9; omega
                  replace bvz83 : BV _ _ [128] := bvz83
                  rw [hR] at bvz83
                  refine l_step (y_len Hvaa.underlying38 (et g0 rfl)) ?_
                  refine l_step (y_add rfl (et g0 rfl) (addIN (x := 21) ?_)) ?_
                  omega
                  refine l_step (y_conv Hvaa.underlying3 Hvaa.underlying5 (et g0 rfl) (wrapU_id uk8 ?_)) ?_
                  omega
                  refine l_step (y_add rfl (et g0 rfl) (wrapU_addN (a := 192) uk8 ?_)) ?_
                  omega
                  obtain ⟨base, hbs⟩ : ∃ base, base = w7.heap.size := ⟨_, rfl⟩
                  have hbw : w.heap.size ≤ base := by rw [hbs]; exact U.size
                  have hHb : ∀ q, Store.has Hz83 q → q < base := fun q hq => by rw [hbs]; exact hF.lt hq
                  have hlb2 : b2 < base := by rw [hbs]; exact k2.lt
                  have hlb3 : b3 < base := by rw [hbs]; exact k3.lt
                  refine l_eff (e_bytes2 (q := 213 + (crtR n).length) (r := 148) (Eq.trans (et g0 rfl) (congrArg (fun z : Nat => Value.int .u8 (z : Int)) hq9)) rfl (by omega) (by decide)) (fun v84 w84 h84 => ?_)
                  obtain ⟨hO, u84⟩ := h84
                  replace G := G.tr (Go.ofUp hF u84)
                  replace hF := hF.up u84
                  replace k2 := k2.up u84
                  replace k3 := k3.up u84
                  replace U := U.tr u84
                  rw [← hbs] at hO
                  have hbW2 := u84.size
                  exact (by
                    refine l_step (y_assignV (et g0 rfl)) ?_
                    refine l_nil ?_
                    refine hK82 _ _ ?_
                    refine fg4 2 4 5 8 (gS rfl (gS rfl (gS rfl (gS rfl (gS rfl (gS rfl (gS rfl (gS rfl (gS rfl g0))))))))) (gS rfl (gS rfl (gS rfl (gS rfl (gS rfl (gS rfl (gS rfl (gS rfl g0)))))))) (gS rfl (gS rfl (gS rfl (gS rfl (gS rfl (gS rfl (gS rfl g0))))))) g0 (fun g => ?_)
                    refine c_seq (fun K85 hK85 => ?_)
                    exact (by
                      refine c_region ?_
                      refine l_step (y_moveV (et g0 rfl)) ?_
                      refine l_step (y_slA000 Hvaa.underlying25 sz_5 (et (gS rfl (gS rfl (gS rfl (gS rfl g0)))) rfl) ) ?_
                      have hbz : base ≤ w84.heap.size := by rw [hbs]; exact hbW2
                      refine l_eff (e_appB Hvaa.underlying38 (et (gS rfl g0) rfl) hO (l2 := be 20 a) (length_be _ _) (et g0 rfl) (k2.row (RowIn.self _)) (be_lt _ _) (by simp only [length_be, List.length_cons, List.length_nil]; omega) hbz) (fun v86 w86 h86 => ?_)
                      obtain ⟨hO86, c86⟩ := h86
                      have hOo := hO
                      replace G := G.chs c86 (by intro b hb; have h9 := hOo.lim b hb.symm; first | exact .inr (by omega) | omega) (by intro q hq hh; have := hHb q hh; have := hOo.lim q hq.symm; omega)
                      replace hF := G.fz
                      replace k2 := k2.ch c86 (by first | omega | exact hOo.ne (by omega))
                      replace k3 := k3.ch c86 (by first | omega | exact hOo.ne (by omega))
                      replace hO := hO86
                      replace U := U.cc c86 (by intro b hb; have h9 := hOo.lim b hb.symm; first | exact .inr (by omega) | omega)
                      refine l_step (y_assignV (et g0 rfl)) ?_
                      refine l_nil ?_
                      refine hK85 _ _ ?_
                      refine fg3 4 5 8 (gS rfl (gS rfl (gS rfl (gS rfl (gS rfl (gS rfl g0)))))) (gS rfl (gS rfl (gS rfl (gS rfl (gS rfl g0))))) g0 (fun g => ?_)
                      refine c_seq (fun K87 hK87 => ?_)
                      exact (by
                        refine c_region ?_
                        refine l_step (y_moveV (et g0 rfl)) ?_
                        refine l_step (y_moveV (et (gS rfl (gS rfl g0)) rfl)) ?_
                        replace hbz : base ≤ w86.heap.size := Nat.le_trans hbz c86.size
                        obtain ⟨qbA, qoA, eqA, hqbA, hqrA⟩ := WV.at (by first | exact bvz83.wv hF | (rw [hrl9]; exact bvz83.wv hF)) (by rw [hrl9]; first | decide | simp)
                        cases eqA
                        refine l_eff (e_appB Hvaa.underlying38 (et (gS rfl g0) rfl) hO (l2 := (crtR n)) hrl9 (et g0 rfl) hqrA bvz83.dig (by simp only [length_be, List.length_append, List.length_cons, List.length_nil]; have h9 := hrl9; have h8 := hx9; omega) hbz) (fun v88 w88 h88 => ?_)
                        obtain ⟨hO88, c88⟩ := h88
                        have hOo := hO
                        replace G := G.chs c88 (by intro b hb; have h9 := hOo.lim b hb.symm; first | exact .inr (by omega) | omega) (by intro q hq hh; have := hHb q hh; have := hOo.lim q hq.symm; omega)
                        replace hF := G.fz
                        replace k2 := k2.ch c88 (by first | omega | exact hOo.ne (by omega))
                        replace k3 := k3.ch c88 (by first | omega | exact hOo.ne (by omega))
                        replace hO := hO88
                        replace U := U.cc c88 (by intro b hb; have h9 := hOo.lim b hb.symm; first | exact .inr (by omega) | omega)
                        obtain ⟨Hz89, Gz89, hlz89, bvz89, hnz89⟩ := hO.keep' G hbw
                        replace G := Gz89
                        replace hF := G.fz
                        replace h1 := h1.mono hlz89
                        replace hBl := hBl.mono hlz89
                        replace bvz83 := bvz83.mono hlz89
                        replace nb2 := fun hh => (hnz89 _ hh).elim nb2 (fun e => hO.ne (by omega) e)
                        replace nb3 := fun hh => (hnz89 _ hh).elim nb3 (fun e => hO.ne (by omega) e)
                        refine l_eff (e_callV cal_124 (aC (et g0 rfl) aN) (yp_hashedAddr hKec hF bvz89 (by simp only [length_be, List.length_append, List.length_cons, List.length_nil]; have h9 := hrl9; have h8 := hx9; omega))) (fun v90 w90 h90 => ?_)
                        obtain ⟨rfl, u90⟩ := h90
                        replace G := G.tr (Go.ofUp hF u90)
                        replace hF := hF.up u90
                        replace k2 := k2.up u90
                        replace k3 := k3.up u90
                        replace U := U.tr u90
                        refine l_effN (e_store sz_25 (et (gS rfl (gS rfl (gS rfl (gS rfl (gS rfl (gS rfl g0)))))) rfl) (cellsV (et g0 rfl) rfl) (by rw [length_bL, length_be]) (by exact one_bL _) k3 (by exact Nat.le_of_ble_eq_true rfl)) (fun v91 w91 h91 => ?_)
                        obtain ⟨rfl, x91⟩ := h91
                        replace k2 := k2.ch x91.ch (by omega)
                        replace k3 := x91.blk.full (by rw [length_bL, length_be]; rfl)
                        replace G := G.wr x91 (by first | exact .inr f3 | omega | (simp; omega)) nb3
                        replace hF := G.fz
                        replace U := U.st x91 f3
                        refine l_nil ?_
                        refine hK87 _ _ ?_
                        refine fg1 4 (gS rfl (gS rfl (gS rfl (gS rfl (gS rfl (gS rfl g0)))))) (fun g => ?_)
                        refine c_ret ?_
                        repeat with_reducible refine then_ret ?_
                        refine ret1 rfl (res_blk agg_25 sz_25 (et g0 rfl) (by rw [List.size_toArray, length_bL, length_be]) k3) ?_
                        have e9 : [213 + (crtR n).length, 148] ++ be 20 a ++ crtR n = (213 + (crtR n).length) :: 148 :: (be 20 a ++ crtR n) := by simp only [List.cons_append, List.nil_append]
                        exact ⟨_, by rw [crtN, ← e9]; rfl, G⟩)))))))))
theorem crt_spec (hKec : KSum) : CrSum := fun w H v a n hF h1 hn ha => yp_createAddr hKec hF ha h1 (sm64 hn) hn
end Go.Proofs.YgvaawGreat
