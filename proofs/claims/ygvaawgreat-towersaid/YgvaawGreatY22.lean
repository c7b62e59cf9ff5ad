import Derived.Test.YgvaawGreatY21
set_option maxRecDepth 100000
set_option maxHeartbeats 4000000
set_option linter.unusedSimpArgs false
set_option linter.unusedVariables false
namespace Go.Proofs.YgvaawGreat
open Go
def growN (m : List Nat) (t : Nat) : List Nat := if m.length / 32 < wordsN t then m ++ List.replicate (32 * wordsN t - m.length) 0 else m
def wrN (m : List Nat) (x : Nat) (l : List Nat) : List Nat := if x < m.length then m.take x ++ l.take (m.length - x) ++ m.drop (x + l.length) else m
theorem len_wr (m : List Nat) (x : Nat) (l : List Nat) : (wrN m x l).length = m.length := by
  unfold wrN
  split
  · simp only [List.length_append, List.length_take, List.length_drop]; omega
  · rfl
theorem len_grow {m : List Nat} {t : Nat} (h : m.length / 32 < wordsN t) : (growN m t).length = 32 * wordsN t := by
  rw [growN, if_pos h, List.length_append, List.length_replicate]; omega
theorem dig_wr {m l : List Nat} {x : Nat} (hm : Dig 256 m) (hl : Dig 256 l) : Dig 256 (wrN m x l) := by
  unfold wrN
  split
  · intro d hd
    simp only [List.mem_append] at hd
    rcases hd with (hd | hd) | hd
    · exact hm d (List.mem_of_mem_take hd)
    · exact hl d (List.mem_of_mem_take hd)
    · exact hm d (List.mem_of_mem_drop hd)
  · exact hm
theorem dig_grow {m : List Nat} {t : Nat} (hm : Dig 256 m) : Dig 256 (growN m t) := by
  unfold growN
  split
  · intro d hd
    rcases List.mem_append.1 hd with hd | hd
    · exact hm d hd
    · rw [List.eq_of_mem_replicate hd]; decide
  · exact hm
theorem grow_cut {m : List Nat} {t : Nat} (h : m.length / 32 < wordsN t) : cutN m 0 (32 * wordsN t) = growN m t := by
  rw [growN, if_pos h, cutN, List.drop_zero, List.take_of_length_le (by omega), Nat.sub_zero]
theorem bspl_mid (m l : List Nat) {x : Nat} (h : x + l.length ≤ m.length) : spl (bL m).toArray x (bL l) = (bL (m.take x ++ l ++ m.drop (x + l.length))).toArray := by
  apply Array.ext_getElem?
  intro i
  by_cases hi : x ≤ i ∧ i < x + l.length
  · have e : (bL l)[i - x]? = some (Value.int .u8 (l[i - x]'(by omega) : Nat)) := by
      simp [bL, bval, List.getElem?_eq_getElem (show i - x < l.length by omega)]
    have := get_spl_in (cs := (bL m).toArray) (o := x) (vs := bL l) (by rw [length_bL, List.size_toArray, length_bL]; omega) e
    rw [show x + (i - x) = i by omega] at this
    rw [this, List.getElem?_toArray, bL_append, bL_append, List.append_assoc, List.getElem?_append_right (by rw [length_bL, List.length_take]; omega), length_bL, List.length_take, Nat.min_eq_left (by omega), List.getElem?_append_left (by rw [length_bL]; omega), e]
  · rw [get_spl_out (by rw [length_bL, List.size_toArray, length_bL]; omega) (by rw [length_bL]; omega), List.getElem?_toArray, List.getElem?_toArray]
    by_cases h1 : i < x
    · rw [List.append_assoc, bL_append, List.getElem?_append_left (by rw [length_bL, List.length_take]; omega), ← bL_take, List.getElem?_take, if_pos h1]
    · rw [bL_append, List.getElem?_append_right (by rw [length_bL, List.length_append, List.length_take]; omega), length_bL, List.length_append, List.length_take, Nat.min_eq_left (by omega), ← bL_drop, List.getElem?_drop]
      congr 1
      omega
theorem Blk.oput {w : World} {b k o n : Nat} {a cs : Array Value} {v : Value} (h : Blk w b (spl cs k [v])) (g : Out a cs o n) (h1 : o ≤ k) (h2 : k < o + n) : Out a (spl cs k [v]) o n := g.put h1 h2
theorem Blk.oset {w : World} {b k o n : Nat} {a cs : Array Value} {v : Value} (h : Blk w b (cs.setIfInBounds k v)) (g : Out a cs o n) (h1 : o ≤ k) (h2 : k < o + n) : Out a (cs.setIfInBounds k v) o n := g.put h1 h2
theorem MB.pos {w : World} {bm n : Nat} {a : Option Addr} {l : List Nat} (h : MB w bm (.slice a n n) l) (hl : 0 < l.length) : a = some ⟨bm, 0, none⟩ ∧ Blk w bm (bL l).toArray := by
  rcases h.at' with ⟨_, h2⟩ | ⟨h1, h2⟩
  · rw [h2] at hl; exact absurd hl (Nat.lt_irrefl _)
  · exact ⟨by injection h1, h2⟩
theorem MB.wrt {w w' : World} {bm x : Nat} {m l : List Nat} (hm : Dig 256 m) (hl : Dig 256 l) (hx : x < m.length) (h : Wr w w' bm (spl (bL m).toArray (0 + x * 1) (bL (l.take (m.length - x))))) : MB w' bm (.slice (some ⟨bm, 0, none⟩) m.length m.length) (wrN m x l) := by
  refine ⟨dig_wr hm hl, .inr ⟨by rw [len_wr], ?_⟩⟩
  have k := h.blk
  rw [show 0 + x * 1 = x by omega, bspl_mid _ _ (by rw [List.length_take]; omega)] at k
  rw [wrN, if_pos hx]
  rcases Nat.le_total l.length (m.length - x) with h1 | h1
  · rw [List.take_of_length_le h1] at k ⊢; exact k
  · rw [List.length_take, Nat.min_eq_left h1, show x + (m.length - x) = m.length by omega, List.drop_length] at k
    rw [List.drop_of_length_le (show m.length ≤ x + l.length by omega)]; exact k
theorem MB.new {w : World} {b : Nat} {l : List Nat} (hl : Dig 256 l) (h : Blk w b (bL l).toArray) : MB w b (.slice (some ⟨b, 0, none⟩) l.length l.length) l := ⟨hl, .inr ⟨rfl, h⟩⟩
theorem yp_cut {w : World} {H : Store} {v0 v1 v2 : Value} {l : List Nat} {x y : Nat} (hF : Fz w H) (hB : BV H v0 l) (h48 : l.length ≤ 1099511627776) (h1 : NV H v1 x) (h2 : NV H v2 y) (s1 : Sm x) (hy : y ≤ 1099511627776) : Ret 146 [v0, v1, v2] w (fun v w' => ∃ H', Go No w H w' H' ∧ BV H' v (cutN l x y)) := by
  obtain ⟨a, c, rfl, _, _⟩ := (hB.wv hF).val
  exact yp_cut0 _ c a l hF (hB.wv hF) (Nat.le_refl _) h48 h1 h2 s1 hy (Nat.lt_of_le_of_lt hy (by decide))
def rdN (m : List Nat) (x y : Nat) : List Nat := if y = 0 then [] else cutN m x y
theorem yp_read {w : World} {H : Store} (hF : Fz w H) (bf o : Nat) (fs : Array Value) (f : YF) (vm : Value) (kF : Blk w bf fs) (hf : FC H fs o f vm) (bm : Nat) (kM : MB w bm vm f.mem) (lM : bm < w.heap.size) {v1 v2 : Value} {x y : Nat} (h1 : NV H v1 x) (h2 : NV H v2 y) (s1 : x < 256 ^ 32) (s2 : y < 256 ^ 32) (hy : y ≤ 1099511627776) :
    Ret 62 [.pointer (some ⟨bf, o, none⟩), v1, v2] w (fun v w' => ∃ H', Go No w H w' H' ∧ BV H' v (rdN f.mem x y)) := by
  obtain ⟨am, rfl⟩ := kM.val
  obtain ⟨vpc, vgas, vval, voo, vol, ka, kc, ca, cc, ia, ic, svc, rF, rSe, rCa, rSv, hSv, hPc, hGa, hVa, hOo, hOl, hSt, hCo, hIn⟩ := hf.ex
  have fo := hf.ok
  have fo1 := fo.stack
  have fo2 := fo.code
  have fo3 := fo.input
  have fo4 := fo.mem
  refine enter (n := 16) Hvaa.func62 rfl rfl (Nat.le_of_ble_eq_true rfl) ?_
  have U := Up.refl w
  have G : Go (No) w H w H := Go.refl hF
  have hL0 : Le H H := Le.refl H
  refine c_seq (fun K1 hK1 => ?_)
  exact (by
    refine c_region ?_
    refine l_step y_assignC ?_
    refine l_nil ?_
    refine hK1 _ _ ?_
    refine fg3 2 1 0 (gS rfl (gS rfl (gS rfl g0))) (gS rfl (gS rfl g0)) (gS rfl g0) (fun g => ?_)
    refine c_seq (fun K2 hK2 => ?_)
    refine c_seq (fun K3 hK3 => ?_)
    exact (by
      refine c_region ?_
      refine l_step (y_moveV (et (gS rfl (gS rfl g0)) rfl)) ?_
      refine l_eff (e_callV cal_79 (aC (et g0 rfl) aN) (yp_isZero hF h2 (bd_sm s2 (by decide)))) (fun v4 w4 h4 => ?_)
      obtain ⟨rfl, u4⟩ := h4
      replace G := G.tr (Go.ofUp hF u4)
      replace hF := hF.up u4
      replace kF := kF.up u4
      replace kM := kM.up u4
      replace U := U.tr u4
      refine l_nil ?_
      refine hK3 _ _ ?_
      refine fg4 2 1 0 8 (gS rfl (gS rfl (gS rfl (gS rfl g0)))) (gS rfl (gS rfl (gS rfl g0))) (gS rfl (gS rfl g0)) g0 (fun g => ?_)
      refine c_cond (et g0 rfl) (fun cB1 => ?_) (fun cB1 => ?_)
      · skip
        
        refine c_seq (fun K6 hK6 => ?_)
        exact (by
          refine c_region ?_
          refine l_step y_assignC ?_
          refine l_nil ?_
          refine hK6 _ _ ?_
          refine fg1 6 g0 (fun g => ?_)
          refine c_ret ?_
          repeat with_reducible refine then_ret ?_
          refine ret1 rfl (res_tmp (et g0 rfl)) ?_
          exact ⟨_, G, by rw [rdN, if_pos (of_decide_eq_true cB1)]; exact BV.nil _⟩)
      · skip
        
        refine c_skip ?_
        refine hK2 _ _ ?_
        refine fg3 2 1 0 (gS rfl (gS rfl (gS rfl g0))) (gS rfl (gS rfl g0)) (gS rfl g0) (fun g => ?_)
        refine c_seq (fun K7 hK7 => ?_)
        exact (by
          refine c_region ?_
          refine l_step (y_moveV (et g0 rfl)) ?_
          refine l_step (y_nil (et g0 rfl)) ?_
          refine l_step (y_fld fld_146_9 (et g0 rfl)) ?_
          refine l_step (y_load1 one_38 (et g0 rfl) (at1 (kF.cell (rF 9 _ rfl)))) ?_
          refine l_step (y_moveV (et (gS rfl (gS rfl (gS rfl (gS rfl (gS rfl g0))))) rfl)) ?_
          refine l_step (y_moveV (et (gS rfl (gS rfl (gS rfl (gS rfl (gS rfl (gS rfl (gS rfl g0))))))) rfl)) ?_
          have hMw := kM.wv (by omega)
          obtain ⟨hn0, -⟩ : f.mem.length ≤ 1099511627776 ∧ True := ⟨by omega, trivial⟩
          refine l_eff (e_callV cal_146 (aC (et (gS rfl (gS rfl g0)) rfl) (aC (et (gS rfl g0) rfl) (aC (et g0 rfl) aN))) (yp_cut0 _ _ _ _ hF hMw (Nat.le_refl _) hn0 h1 h2 (bd_sm s1 (by decide)) hy (bd_up s2 (by decide)))) (fun v8 w8 h8 => ?_)
          obtain ⟨H8, g8, b8⟩ := h8
          have hlew8 := g8.le
          replace h1 := h1.mono hlew8
          replace h2 := h2.mono hlew8
          replace hL0 := hL0.trans hlew8
          replace kF := kF.up g8.up
          replace kM := kM.up g8.up
          replace U := U.tr g8.up
          replace G := G.tr g8
          replace hF := g8.fz
          refine l_step (y_assignV (et g0 rfl)) ?_
          refine l_nil ?_
          refine hK7 _ _ ?_
          refine fg1 6 g0 (fun g => ?_)
          refine c_ret ?_
          repeat with_reducible refine then_ret ?_
          refine ret1 rfl (res_tmp (et g0 rfl)) ?_
          exact ⟨_, G, by rw [rdN, if_neg (of_decide_eq_false cB1)]; exact b8⟩)))
theorem yp_grow {w : World} {H : Store} (hF : Fz w H) (bf o : Nat) (fs : Array Value) (f : YF) (vm : Value) (kF : Blk w bf fs) (hf : FC H fs o f vm) (bm : Nat) (kM : MB w bm vm f.mem) (lM : bm < w.heap.size) (dMF : bm ≠ bf) (nbF : ¬ H.has bf) (nbM : ¬ H.has bm) {vt : Value} {t : Nat} (hT : NV H vt t) (sT : t < 256 ^ 33) (hto : 32 * wordsN t < 16777216) :
    Ret 60 [.pointer (some ⟨bf, o, none⟩), vt] w (fun v w' => v = .tuple #[] ∧ ∃ fs' vm' bm' H', Go (fun k => k = bf) w H w' H' ∧ Blk w' bf fs' ∧ FC H' fs' o { f with mem := growN f.mem t } vm' ∧ Out fs fs' o 60 ∧ MB w' bm' vm' (growN f.mem t) ∧ (bm' = bm ∨ w.heap.size ≤ bm') ∧ bm' < w'.heap.size ∧ ¬ H'.has bm') := by
  obtain ⟨am, rfl⟩ := kM.val
  obtain ⟨vpc, vgas, vval, voo, vol, ka, kc, ca, cc, ia, ic, svc, rF, rSe, rCa, rSv, hSv, hPc, hGa, hVa, hOo, hOl, hSt, hCo, hIn⟩ := hf.ex
  have fo := hf.ok
  have fo1 := fo.stack
  have fo2 := fo.code
  have fo3 := fo.input
  have fo4 := fo.mem
  have oF := Out.refl fs o 60
  have lF := kF.lt
  refine enter (n := 31) Hvaa.func60 rfl rfl (Nat.le_of_ble_eq_true rfl) ?_
  have U : Ch (fun k => k = bf) w w := Ch.refl _ w
  have G : Go (fun k => k = bf) w H w H := Go.refl hF
  have hL0 : Le H H := Le.refl H
  refine c_seq (fun K1 hK1 => ?_)
  exact (by
    refine c_region ?_
    refine l_step (y_moveV (et (gS rfl g0) rfl)) ?_
    refine l_eff (e_callV cal_126 (aC (et g0 rfl) aN) (yp_words' hF hT sT (by decide))) (fun v2 w2 h2 => ?_)
    obtain ⟨H2, g2, n2⟩ := h2
    have hlew2 := g2.le
    replace nbF := g2.nb nbF kF.lt
    replace nbM := g2.nb nbM (Nat.lt_of_lt_of_le lM U.size)
    replace hT := hT.mono hlew2
    replace hL0 := hL0.trans hlew2
    replace kF := kF.up g2.up
    replace kM := kM.up g2.up
    replace U := U.tr g2.up
    replace G := G.tr g2
    replace hF := g2.fz
    have q2 := bd_words sT (by decide)
    refine l_eff (e_callV cal_24 (aC (et g0 rfl) aN) (yp_small hF n2 (bd_sm q2 (by decide)))) (fun v3 w3 h3 => ?_)
    obtain ⟨rfl, u3⟩ := h3
    replace G := G.tr (Go.ofUp hF u3)
    replace hF := hF.up u3
    replace kF := kF.up u3
    replace kM := kM.up u3
    replace U := U.tr u3
    rw [lo_small (show wordsN t < 18446744073709551616 by omega)]
    refine l_step (y_assignV (et g0 rfl)) ?_
    refine l_nil ?_
    refine hK1 _ _ ?_
    refine fg2 0 4 (gS rfl (gS rfl (gS rfl (gS rfl g0)))) g0 (fun g => ?_)
    refine c_seq (fun K4 hK4 => ?_)
    exact (by
      refine c_region ?_
      refine l_step (y_moveV (et g0 rfl)) ?_
      refine l_step (y_moveV (et (gS rfl (gS rfl g0)) rfl)) ?_
      refine l_step (y_nil (et g0 rfl)) ?_
      refine l_step (y_fld fld_146_9 (et g0 rfl)) ?_
      refine l_step (y_load1 one_38 (et g0 rfl) (at1 (kF.cell (rF 9 _ rfl)))) ?_
      refine l_step (y_len Hvaa.underlying38 (et g0 rfl)) ?_
      refine l_step (y_quo (et g0 rfl) rfl (by decide) (quoI (b := 32) ?_)) ?_
      omega
      refine l_step (y_conv Hvaa.underlying3 Hvaa.underlying26 (et g0 rfl) (wrapU_id uk64 ?_)) ?_
      omega
      refine l_step (y_gtr (et (gS rfl (gS rfl (gS rfl (gS rfl (gS rfl (gS rfl (gS rfl g0))))))) rfl) (et g0 rfl)) ?_
      refine l_nil ?_
      refine hK4 _ _ ?_
      refine fg3 0 4 17 (gS rfl (gS rfl (gS rfl (gS rfl (gS rfl (gS rfl (gS rfl (gS rfl (gS rfl (gS rfl g0)))))))))) (gS rfl (gS rfl (gS rfl (gS rfl (gS rfl (gS rfl (gS rfl (gS rfl (gS rfl g0))))))))) g0 (fun g => ?_)
      refine c_cond (et g0 rfl) (fun cB1 => ?_) (fun cB1 => ?_)
      · skip
        
        have hgt : f.mem.length / 32 < wordsN t := by have := of_decide_eq_true cB1; omega
        refine c_seq (fun K6 hK6 => ?_)
        exact (by
          refine c_region ?_
          refine l_step (y_moveV (et (gS rfl g0) rfl)) ?_
          refine l_step (y_mul rfl (et g0 rfl) (wrapU_mulN (a := 32) uk64 ?_)) ?_
          omega
          refine l_eff (e_make Hvaa.underlying38 sz_5 zr_5 by_5 (et g0 rfl) (et g0 rfl) (by omega) (by omega)) (fun v7 w7 h7 => ?_)
          obtain ⟨b7, rfl, n7⟩ := h7
          have f7 : w.heap.size ≤ b7 := Nat.le_trans U.size n7.fresh
          have nb7 := hF.nb n7.fresh
          replace G := G.tr (Go.ofUp hF n7.up)
          replace hF := hF.up n7.up
          replace kF := kF.up n7.up
          replace kM := kM.up n7.up
          replace U := U.tr n7.up
          have k7 := mzB n7.blk
          refine l_step (y_assignV (et g0 rfl)) ?_
          refine l_nil ?_
          refine hK6 _ _ ?_
          refine fg2 0 5 (gS rfl (gS rfl (gS rfl (gS rfl (gS rfl (gS rfl g0)))))) g0 (fun g => ?_)
          refine c_seq (fun K8 hK8 => ?_)
          exact (by
            refine c_region ?_
            refine l_step (y_moveV (et g0 rfl)) ?_
            refine l_step (y_moveV (et (gS rfl (gS rfl g0)) rfl)) ?_
            refine l_step (y_nil (et g0 rfl)) ?_
            refine l_step (y_fld fld_146_9 (et g0 rfl)) ?_
            refine l_step (y_load1 one_38 (et g0 rfl) (at1 (kF.cell (rF 9 _ rfl)))) ?_
            refine l_eff (e_copyW Hvaa.underlying38 (et (gS rfl (gS rfl (gS rfl (gS rfl g0)))) rfl) (et g0 rfl) (kM.wv (by omega)) k7 (by simp only [List.size_toArray, length_bL, List.length_replicate]; omega)) (fun v9 w9 h9 => ?_)
            obtain ⟨rfl, x9⟩ := h9
            replace G := G.chs x9.ch (by intro b hb; first | omega | exact .inl hb | (simp at hb ⊢; omega)) (by intro q hq; first | (subst hq; assumption) | (simp only at hq; first | (subst hq; assumption) | (rcases hq with rfl | rfl <;> assumption)))
            replace hF := G.fz
            replace kF := kF.ch x9.ch (by omega)
            replace kM := kM.ch x9.ch (by omega)
            replace k7 := x9.blk
            replace U := U.cc x9.ch (by intro b hb; first | omega | exact .inl hb | exact .inr (hb ▸ f7))
            have eC := cut_spl f.mem 0 (32 * wordsN t)
            rw [List.drop_zero] at eC
            rw [eC, grow_cut hgt] at k7
            refine l_nil ?_
            refine hK8 _ _ ?_
            refine fg2 0 5 (gS rfl (gS rfl (gS rfl (gS rfl (gS rfl (gS rfl (gS rfl g0))))))) (gS rfl (gS rfl (gS rfl (gS rfl (gS rfl (gS rfl g0)))))) (fun g => ?_)
            refine c_region ?_
            refine l_step (y_moveV (et (gS rfl g0) rfl)) ?_
            refine l_step (y_moveV (et (gS rfl g0) rfl)) ?_
            refine l_step (y_nil (et (gS rfl g0) rfl)) ?_
            refine l_step (y_fld fld_146_9 (et g0 rfl)) ?_
            have rl10 := RowIn.le rF (Nat.succ_pos _)
            simp only [List.length_cons, List.length_nil, Nat.zero_add, Nat.reduceAdd] at rl10
            refine l_effN (e_store sz_38 (et g0 rfl) (cellsV (et (gS rfl (gS rfl g0)) rfl) rfl) rfl (by first | exact one_bL _ | exact one_uL _ | (intro v hv; simp at hv; subst hv; rfl)) kF (by first | exact Nat.le_of_ble_eq_true rfl | (simp; done) | (simp; omega) | omega)) (fun v10 w10 h10 => ?_)
            obtain ⟨rfl, x10⟩ := h10
            replace k7 := k7.ch x10.ch (by omega)
            replace kM := kM.ch x10.ch (by omega)
            replace kF := x10.blk
            replace G := G.wr x10 (.inl (by first | rfl | (simp; done))) nbF
            replace hF := G.fz
            replace U := U.st x10 (.inl (by first | rfl | (simp; done)))
            replace oF := kF.oput oF (by omega) (by omega)
            replace rF : RowIn _ _ [.int .u8 (f.kind : Nat), .int .u8 (f.ntv : Nat), .bool f.static, vpc, vgas, vval, voo, vol, .slice ka f.stack.length kc, .slice (some ⟨b7, 0, none⟩) (32 * wordsN t) (32 * wordsN t), .slice ca f.code.length cc, .slice ia f.input.length ic] := kF.rput rF 9 rfl
            replace rSe := kF.rputo rSe (by first | (left; omega) | (right; simp only [List.length_cons, List.length_nil, length_bL, length_be, hSv.len]; omega))
            replace rCa := kF.rputo rCa (by first | (left; omega) | (right; simp only [List.length_cons, List.length_nil, length_bL, length_be, hSv.len]; omega))
            replace rSv := kF.rputo rSv (by first | (left; omega) | (right; simp only [List.length_cons, List.length_nil, length_bL, length_be, hSv.len]; omega))
            refine l_nil ?_
            refine end0 rfl ?_
            exact ⟨rfl, _, _, _, _, G, kF, ⟨⟨fo.kind, fo.ntv, fo.pc, fo.gas, fo.value, fo.outOff, fo.outLen, fo.self, fo.caller, fo.stack, fo.code, fo.input, by show (growN f.mem t).length < _; rw [len_grow hgt]; omega⟩, _, _, _, _, _, _, _, _, _, _, _, _, rF, rSe, rCa, rSv, hSv.mono hL0, (hPc.mono hL0), (hGa.mono hL0), (hVa.mono hL0), (hOo.mono hL0), (hOl.mono hL0), (hSt.mono hL0), (hCo.mono hL0), (hIn.mono hL0)⟩, oF, by rw [← len_grow hgt]; exact MB.new (dig_grow kM.dig) k7, .inr f7, k7.lt, nb7⟩))
      · skip
        
        have hgt : ¬ f.mem.length / 32 < wordsN t := by have := of_decide_eq_false cB1; omega
        refine c_skip ?_
        refine end0 rfl ?_
        have eg : growN f.mem t = f.mem := by rw [growN, if_neg hgt]
        rw [eg]
        exact ⟨rfl, _, _, _, _, G, kF, hf.mono hL0, oF, kM, .inl rfl, Nat.lt_of_lt_of_le lM U.size, nbM⟩))
theorem flen {k : Nat} : ∀ {cs : List (List Value)}, (∀ c ∈ cs, c.length = k) → cs.flatten.length = cs.length * k
  | [], _ => by simp
  | c :: cs, h => by
    rw [List.flatten_cons, List.length_append, flen (fun q hq => h q (List.mem_cons_of_mem _ hq)), h c List.mem_cons_self, List.length_cons, Nat.add_mul, Nat.one_mul, Nat.add_comm]
theorem LV.take0 {α : Type} {P : Cp α} {k n c m : Nat} {H : Store} {a : Option Addr} {xs : List α} (h : LV P k H (.slice a n c) xs) (hm : m ≤ xs.length) : LV P k H (.slice a m m) (xs.take m) := by
  obtain ⟨cs, h1, h2, h3⟩ := h.ex
  have hck : ∀ q ∈ cs, q.length = k := fun q hq => by
    obtain ⟨j, hj, e⟩ := List.getElem_of_mem hq
    exact (h3 j q xs[j] (by rw [List.getElem?_eq_getElem hj, e]) (List.getElem?_eq_getElem (by omega))).1
  have hl : (xs.take m).length = m := by rw [List.length_take]; omega
  refine ⟨cs.take m, ⟨?_, ?_⟩, by simp [h2], fun i q x hq hx => ?_⟩
  · rw [flen (fun q hq => hck q (List.mem_of_mem_take hq)), hl, List.length_take, h2, Nat.min_eq_left hm]
  · rw [hl]
    rcases h1.at' with ⟨e, h0⟩ | ⟨b, o, c', ds, e, g1, g2, g3, g4⟩
    · left
      have : m = 0 := by omega
      subst this
      obtain ⟨q, e⟩ := e
      cases e
      exact ⟨⟨_, rfl⟩, rfl⟩
    · cases e
      refine .inr ⟨b, o, m, ds, rfl, Nat.le_refl _, by omega, g3, fun i v hv => g4 i v ?_⟩
      rw [← List.take_append_drop m cs, List.flatten_append]
      rw [List.getElem?_append_left (List.getElem?_eq_some_iff.1 hv).1]
      exact hv
  · rw [List.getElem?_take] at hq hx
    split at hq
    · rw [if_pos (by assumption)] at hx
      exact h3 i q x hq hx
    · cases hq
theorem LV.cap {α : Type} {P : Cp α} {k n c : Nat} {H : Store} {a : Option Addr} {xs : List α} (h : LV P k H (.slice a n c) xs) : n = xs.length ∧ n ≤ c ∧ c < 9223372036854775808 := by
  obtain ⟨a', c', e, h1, h2⟩ := h.val
  cases e
  exact ⟨rfl, h1, h2⟩
theorem NV.sl {H : Store} {v : Value} {x : Nat} (h : NV H v x) : ∃ a n c, v = .slice a n c := by
  obtain ⟨l, hb, _⟩ := h.ex
  obtain ⟨a, c, e, _⟩ := hb.sv.val
  exact ⟨a, _, c, e⟩
theorem FC.setmem {H : Store} {fs : Array Value} {o : Nat} {f : YF} {vm : Value} {m : List Nat} (h : FC H fs o f vm) (hm : m.length < 16777216) : FC H fs o { f with mem := m } vm := by
  obtain ⟨vpc, vgas, vval, voo, vol, sa, sc, ca, cc, ia, ic, wc, r⟩ := h.ex
  exact ⟨⟨h.ok.kind, h.ok.ntv, h.ok.pc, h.ok.gas, h.ok.value, h.ok.outOff, h.ok.outLen, h.ok.self, h.ok.caller, h.ok.stack, h.ok.code, h.ok.input, hm⟩, vpc, vgas, vval, voo, vol, sa, sc, ca, cc, ia, ic, wc, r⟩
section
variable {n : Nat} {s : Nat → Value} {w : World} {d : Option Nat} {ty : TypeId} {pos : String} {af : Array Edge} {g : Option (Nat × Bool)}
theorem e_appKK {α : Type} {P : Cp α} {H : Store} {x y : Operand} {T e k q by_ : Nat} {a : Option Addr} {z : Value} {xs : List α} {c : List Value} {u : α} (hU : Hvaa.prog.underlying T = some (.slice e)) (hs : Sz e k) (hz : Zr e z) (hq : By e q) (hzs : z.cells.size = k) (hk : 0 < k)
    {m : Nat} (hm : m = xs.length) (hx : ev n s x = .slice a m m) (hF : Fz w H) (hL : LV P k H (.slice a m m) xs) (hy : ev n s y = .slice (some ⟨by_, 0, none⟩) 1 1) (hc : c.length = k) (hr : Blk w by_ c.toArray) (h1 : ∀ u ∈ c, u.one1 = true) (hP : P H c u) (hq2 : q ≤ 4096) (hn : xs.length ≤ 4294967296) (mc : MC P := by first | with_reducible exact mc_addr | with_reducible exact mc_word | with_reducible exact mc_slot | with_reducible exact mc_acct | with_reducible exact mc_mark | with_reducible exact mc_tri | with_reducible exact mc_log | with_reducible exact mc_nat | with_reducible exact mc_access | with_reducible exact mc_sk | with_reducible exact mc_ea | with_reducible exact mc_es | with_reducible exact mc_raw | with_reducible exact mc_oslot | with_reducible exact mc_oacct | with_reducible exact mc_tx | assumption) :
    Eff n s w ⟨d, .call { callee := .builtin .append, args := #[x, y], argTypes := #[T, T] }, ty, pos, af, g⟩ (fun v' w' => ∃ H', Go No w H w' H' ∧ LV P k H' v' (xs ++ [u])) := by
  have h := e_appK (d := d) (ty := ty) (pos := pos) (af := af) (g := g) hU hs hz hq hzs hk hm hx hF hL hy hc hr h1 hP hq2 hn
  refine ⟨fun K Q hK => h.out K Q fun v w' hv => hK v w' ?_⟩
  obtain ⟨H2, g2, _, l2, _⟩ := hv.1.keep' mc.m (Go.ofUp hF hv.2) (Le.refl _) (Nat.le_refl _)
  exact ⟨H2, g2, l2⟩
end
theorem yp_write {w : World} {H : Store} (hF : Fz w H) (bf o : Nat) (fs : Array Value) (f : YF) (vm : Value) (kF : Blk w bf fs) (hf : FC H fs o f vm) (bm : Nat) (kM : MB w bm vm f.mem) (lM : bm < w.heap.size) (dMF : bm ≠ bf) (nbM : ¬ H.has bm) {v1 vb : Value} {x : Nat} {l : List Nat} (h1 : NV H v1 x) (s1 : x < 256 ^ 33) (hB : BV H vb l) :
    Ret 142 [.pointer (some ⟨bf, o, none⟩), v1, vb] w (fun v w' => v = .tuple #[] ∧ ∃ H', Go (fun k => k = bm) w H w' H' ∧ MB w' bm vm (wrN f.mem x l)) := by
  obtain ⟨am, rfl⟩ := kM.val
  obtain ⟨vpc, vgas, vval, voo, vol, ka, kc, ca, cc, ia, ic, svc, rF, rSe, rCa, rSv, hSv, hPc, hGa, hVa, hOo, hOl, hSt, hCo, hIn⟩ := hf.ex
  have fo := hf.ok
  have fo1 := fo.stack
  have fo2 := fo.code
  have fo3 := fo.input
  have fo4 := fo.mem
  have lF := kF.lt
  refine enter (n := 27) Hvaa.func142 rfl rfl (Nat.le_of_ble_eq_true rfl) ?_
  have U : Ch (fun k => k = bm) w w := Ch.refl _ w
  have G : Go (fun k => k = bm) w H w H := Go.refl hF
  have hL0 : Le H H := Le.refl H
  refine c_seq (fun K1 hK1 => ?_)
  exact (by
    refine c_region ?_
    refine l_step (y_moveV (et (gS rfl g0) rfl)) ?_
    refine l_step (y_moveV (et (gS rfl g0) rfl)) ?_
    refine l_step (y_nil (et g0 rfl)) ?_
    refine l_step (y_fld fld_146_9 (et g0 rfl)) ?_
    refine l_step (y_load1 one_38 (et g0 rfl) (at1 (kF.cell (rF 9 _ rfl)))) ?_
    refine l_step (y_len Hvaa.underlying38 (et g0 rfl)) ?_
    refine l_eff (e_callV cal_136 (aC (et (gS rfl (gS rfl (gS rfl (gS rfl (gS rfl g0))))) rfl) (aC (et g0 rfl) aN)) (yp_place hF h1 (bd_sm s1 (by decide)) f.mem.length (by omega))) (fun v2 w2 h2 => ?_)
    obtain ⟨rfl, u2⟩ := h2
    replace G := G.tr (Go.ofUp hF u2)
    replace hF := hF.up u2
    replace kF := kF.up u2
    replace kM := kM.up u2
    replace U := U.tr u2
    refine l_step (y_moveV (et g0 rfl)) ?_
    refine l_step (y_ext (et g0 rfl) rfl) ?_
    refine l_step (y_ext (et (gS rfl g0) rfl) rfl) ?_
    refine l_step (y_assignV (et (gS rfl g0) rfl)) ?_
    refine l_step (y_assignV (et (gS rfl g0) rfl)) ?_
    refine l_nil ?_
    refine hK1 _ _ ?_
    refine fg4 2 0 6 7 (gS rfl (gS rfl (gS rfl (gS rfl (gS rfl (gS rfl (gS rfl (gS rfl (gS rfl (gS rfl (gS rfl (gS rfl (gS rfl (gS rfl g0)))))))))))))) (gS rfl (gS rfl (gS rfl (gS rfl (gS rfl (gS rfl (gS rfl (gS rfl (gS rfl (gS rfl (gS rfl (gS rfl g0)))))))))))) (gS rfl g0) g0 (fun g => ?_)
    refine c_seq (fun K3 hK3 => ?_)
    exact (by
      refine c_region ?_
      refine l_step (y_moveV (et g0 rfl)) ?_
      refine l_nil ?_
      refine hK3 _ _ ?_
      refine fg4 2 0 6 18 (gS rfl (gS rfl (gS rfl (gS rfl g0)))) (gS rfl (gS rfl (gS rfl g0))) (gS rfl (gS rfl g0)) g0 (fun g => ?_)
      refine c_cond (et g0 rfl) (fun cB1 => ?_) (fun cB1 => ?_)
      · skip
        
        have hlt := of_decide_eq_true cB1
        obtain ⟨rfl, kB⟩ := kM.pos (by omega)
        rw [show placeN x f.mem.length = x by rw [placeN, if_pos hlt]]
        exact (by
          refine c_region ?_
          refine l_step (y_moveV (et (gS rfl (gS rfl g0)) rfl)) ?_
          refine l_step (y_nil (et g0 rfl)) ?_
          refine l_step (y_fld fld_146_9 (et g0 rfl)) ?_
          refine l_step (y_load1 one_38 (et g0 rfl) (at1 (kF.cell (rF 9 _ rfl)))) ?_
          refine l_step (y_moveV (et (gS rfl (gS rfl (gS rfl (gS rfl (gS rfl g0))))) rfl)) ?_
          refine l_step (y_slS100n Hvaa.underlying38 sz_5 (et (gS rfl g0) rfl) (et g0 rfl) ?_ ?_) ?_
          omega
          omega
          refine l_step (y_moveV (et (gS rfl (gS rfl (gS rfl (gS rfl (gS rfl (gS rfl (gS rfl (gS rfl (gS rfl g0))))))))) rfl)) ?_
          refine l_eff (e_copyW Hvaa.underlying38 (et (gS rfl g0) rfl) (et g0 rfl) (hB.wv hF) kB (by simp only [List.size_toArray, length_bL]; omega)) (fun v5 w5 h5 => ?_)
          obtain ⟨rfl, x5⟩ := h5
          replace G := G.chs x5.ch (by intro b hb; first | omega | exact .inl hb | (simp at hb ⊢; omega)) (by intro q hq; first | (subst hq; assumption) | (simp only at hq; first | (subst hq; assumption) | (rcases hq with rfl | rfl <;> assumption)))
          replace hF := G.fz
          replace kF := kF.ch x5.ch (by omega)
          replace kM := MB.wrt kM.dig hB.dig hlt x5
          replace U := U.cc x5.ch (by intro b hb; first | omega | exact .inl hb | exact .inr (hb ▸ U))
          refine l_nil ?_
          refine end0 rfl ?_
          exact ⟨rfl, _, G, kM⟩)
      · skip
        
        have hlt := of_decide_eq_false cB1
        refine c_skip ?_
        refine end0 rfl ?_
        exact ⟨rfl, _, G, by rw [wrN, if_neg hlt]; exact kM⟩))
def cpN (m : List Nat) (d : Nat) (l : List Nat) (x y : Nat) : List Nat := if y = 0 then m else wrN m d (cutN l x y)
theorem len_cp (m : List Nat) (d : Nat) (l : List Nat) (x y : Nat) : (cpN m d l x y).length = m.length := by unfold cpN; split <;> first | rfl | exact len_wr _ _ _
theorem yp_copied {w : World} {H : Store} (hF : Fz w H) (bf o : Nat) (fs : Array Value) (f : YF) (vm : Value) (kF : Blk w bf fs) (hf : FC H fs o f vm) (bm : Nat) (kM : MB w bm vm f.mem) (lM : bm < w.heap.size) (dMF : bm ≠ bf) (nbM : ¬ H.has bm) {v1 vb v2 v3 : Value} {d x y : Nat} {l : List Nat} (h1 : NV H v1 d) (hB : BV H vb l) (h2 : NV H v2 x) (h3 : NV H v3 y) (s1 : d < 256 ^ 32) (s2 : x < 256 ^ 32) (s3 : y < 256 ^ 32) (hy : y ≤ 1099511627776) (hl : l.length ≤ 1099511627776) :
    Ret 234 [.pointer (some ⟨bf, o, none⟩), v1, vb, v2, v3] w (fun v w' => v = .tuple #[] ∧ ∃ H', Go (fun k => k = bm) w H w' H' ∧ MB w' bm vm (cpN f.mem d l x y)) := by
  obtain ⟨am, rfl⟩ := kM.val
  obtain ⟨vpc, vgas, vval, voo, vol, ka, kc, ca, cc, ia, ic, svc, rF, rSe, rCa, rSv, hSv, hPc, hGa, hVa, hOo, hOl, hSt, hCo, hIn⟩ := hf.ex
  have fo := hf.ok
  have fo1 := fo.stack
  have fo2 := fo.code
  have fo3 := fo.input
  have fo4 := fo.mem
  have lF := kF.lt
  refine enter (n := 20) Hvaa.func234 rfl rfl (Nat.le_of_ble_eq_true rfl) ?_
  have U : Ch (fun k => k = bm) w w := Ch.refl _ w
  have G : Go (fun k => k = bm) w H w H := Go.refl hF
  have hL0 : Le H H := Le.refl H
  refine c_seq (fun K1 hK1 => ?_)
  exact (by
    refine c_region ?_
    refine l_step (y_moveV (et (gS rfl (gS rfl (gS rfl (gS rfl g0)))) rfl)) ?_
    refine l_eff (e_callV cal_79 (aC (et g0 rfl) aN) (yp_isZero hF h3 (bd_sm s3 (by decide)))) (fun v2 w2 h2 => ?_)
    obtain ⟨rfl, u2⟩ := h2
    replace G := G.tr (Go.ofUp hF u2)
    replace hF := hF.up u2
    replace kF := kF.up u2
    replace kM := kM.up u2
    replace U := U.tr u2
    refine l_step (y_not (et g0 rfl)) ?_
    refine l_nil ?_
    refine hK1 _ _ ?_
    refine fg6 4 3 2 1 0 12 (gS rfl (gS rfl (gS rfl (gS rfl (gS rfl (gS rfl (gS rfl g0))))))) (gS rfl (gS rfl (gS rfl (gS rfl (gS rfl (gS rfl g0)))))) (gS rfl (gS rfl (gS rfl (gS rfl (gS rfl g0))))) (gS rfl (gS rfl (gS rfl (gS rfl g0)))) (gS rfl (gS rfl (gS rfl g0))) g0 (fun g => ?_)
    refine c_cond (et g0 rfl) (fun cB1 => ?_) (fun cB1 => ?_)
    · skip
      
      exact (by
        refine c_region ?_
        refine l_step (y_moveV (et (gS rfl g0) rfl)) ?_
        refine l_step (y_moveV (et (gS rfl (gS rfl (gS rfl g0))) rfl)) ?_
        refine l_step (y_moveV (et (gS rfl (gS rfl (gS rfl (gS rfl (gS rfl g0))))) rfl)) ?_
        refine l_step (y_moveV (et (gS rfl (gS rfl (gS rfl (gS rfl (gS rfl (gS rfl (gS rfl g0))))))) rfl)) ?_
        refine l_step (y_moveV (et (gS rfl (gS rfl (gS rfl (gS rfl (gS rfl (gS rfl (gS rfl (gS rfl (gS rfl g0))))))))) rfl)) ?_
        refine l_eff (e_callV cal_146 (aC (et (gS rfl (gS rfl g0)) rfl) (aC (et (gS rfl g0) rfl) (aC (et g0 rfl) aN))) (yp_cut hF hB (by omega) h2 h3 (bd_sm s2 (by decide)) (hy))) (fun v4 w4 h4 => ?_)
        obtain ⟨H4, g4, b4⟩ := h4
        have hlew4 := g4.le
        replace nbM := g4.nb nbM (Nat.lt_of_lt_of_le lM U.size)
        replace h1 := h1.mono hlew4
        replace h2 := h2.mono hlew4
        replace h3 := h3.mono hlew4
        replace hB := hB.mono hlew4
        replace hL0 := hL0.trans hlew4
        replace kF := kF.up g4.up
        replace kM := kM.up g4.up
        replace U := U.tr g4.up
        replace G := G.tr g4
        replace hF := g4.fz
        refine l_eff (e_callV cal_142 (aC (et (gS rfl (gS rfl (gS rfl (gS rfl (gS rfl g0))))) rfl) (aC (et (gS rfl (gS rfl (gS rfl (gS rfl g0)))) rfl) (aC (et g0 rfl) aN))) (yp_write hF _ _ _ _ _ kF (hf.mono hL0) _ kM (Nat.lt_of_lt_of_le lM U.size) dMF nbM h1 (bd_up s1 (by decide)) b4)) (fun v5 w5 h5 => ?_)
        obtain ⟨rfl, H5, g5, km5⟩ := h5
        have hlew5 := g5.le
        replace nbM := g5.nb nbM (Nat.lt_of_lt_of_le lM U.size)
        replace h1 := h1.mono hlew5
        replace h2 := h2.mono hlew5
        replace h3 := h3.mono hlew5
        replace hB := hB.mono hlew5
        replace b4 := b4.mono hlew5
        replace hL0 := hL0.trans hlew5
        replace kF := kF.ch g5.ch (by omega)
        replace kM := km5
        replace U := U.cc g5.ch (by intro b hb; first | omega | exact .inl hb | exact .inr (hb ▸ U))
        replace G := G.trans g5 (by intro b hb; first | omega | exact .inl hb | (simp at hb ⊢; omega))
        replace hF := g5.fz
        refine l_nil ?_
        refine end0 rfl ?_
        have hz : ¬ y = 0 := by simpa using cB1
        exact ⟨rfl, _, G, by rw [cpN, if_neg hz]; exact kM⟩)
    · skip
      
      refine c_skip ?_
      refine end0 rfl ?_
      have hz : y = 0 := by simpa using cB1
      exact ⟨rfl, _, G, by rw [cpN, if_pos hz]; exact kM⟩)
def ansN (f : YF) (tk x : Nat) : YF := { f with stack := f.stack.take (f.stack.length - tk) ++ [x], pc := f.pc + 1 }
def waitN (f : YF) (tk off n : Nat) : YF := { f with stack := f.stack.take (f.stack.length - tk), outOff := if n = 0 then 0 else off, outLen := n }
theorem yp_answer {w : World} {H : Store} (hF : Fz w H) (bf o : Nat) (fs : Array Value) (f : YF) (vm : Value) (kF : Blk w bf fs) (hf : FC H fs o f vm) (nbF : ¬ H.has bf) (tk : Nat) (htk : tk ≤ f.stack.length) (hsl : f.stack.length < 60000) (hpc : f.pc + 1 < 4294967296) {vx : Value} {x : Nat} (hX : NV H vx x) (sX : x < W256) :
    Ret 143 [.pointer (some ⟨bf, o, none⟩), .int .i64 tk, vx] w (fun v w' => v = .tuple #[] ∧ ∃ fs' H', Go (fun k => k = bf) w H w' H' ∧ Blk w' bf fs' ∧ FC H' fs' o (ansN f tk x) vm ∧ Out fs fs' o 60) := by
  obtain ⟨vpc, vgas, vval, voo, vol, ka, kc, ca, cc, ia, ic, svc, rF, rSe, rCa, rSv, hSv, hPc, hGa, hVa, hOo, hOl, hSt, hCo, hIn⟩ := hf.ex
  have fo := hf.ok
  have fo1 := fo.stack
  have fo2 := fo.code
  have fo3 := fo.input
  have fo4 := fo.mem
  have hkc := hSt.cap
  obtain ⟨xq, xn, xcq, rfl⟩ := hX.sl
  have oF := Out.refl fs o 60
  refine enter (n := 36) Hvaa.func143 rfl rfl (Nat.le_of_ble_eq_true rfl) ?_
  have U : Ch (fun k => k = bf) w w := Ch.refl _ w
  have G : Go (fun k => k = bf) w H w H := Go.refl hF
  have hL0 : Le H H := Le.refl H
  refine c_seq (fun K1 hK1 => ?_)
  exact (by
    refine c_region ?_
    refine l_step (y_moveV (et g0 rfl)) ?_
    refine l_step (y_nil (et g0 rfl)) ?_
    refine l_step (y_fld fld_146_8 (et g0 rfl)) ?_
    refine l_step (y_load1 one_144 (et g0 rfl) (at1 (kF.cell (rF 8 _ rfl)))) ?_
    refine l_step (y_len Hvaa.underlying144 (et g0 rfl)) ?_
    refine l_step (y_moveV (et (gS rfl (gS rfl (gS rfl (gS rfl (gS rfl (gS rfl g0)))))) rfl)) ?_
    refine l_step (y_sub (et (gS rfl g0) rfl) (et g0 rfl) (subIN ?_ ?_)) ?_
    omega
    omega
    refine l_step (y_assignV (et g0 rfl)) ?_
    refine l_nil ?_
    refine hK1 _ _ ?_
    refine fg3 2 0 6 (gS rfl (gS rfl (gS rfl (gS rfl (gS rfl (gS rfl (gS rfl (gS rfl (gS rfl (gS rfl g0)))))))))) (gS rfl (gS rfl (gS rfl (gS rfl (gS rfl (gS rfl (gS rfl (gS rfl g0)))))))) g0 (fun g => ?_)
    refine c_seq (fun K2 hK2 => ?_)
    exact (by
      refine c_region ?_
      refine l_step (y_moveV (et (gS rfl g0) rfl)) ?_
      refine l_step (y_moveV (et (gS rfl (gS rfl g0)) rfl)) ?_
      refine l_step (y_nil (et g0 rfl)) ?_
      refine l_step (y_fld fld_146_8 (et g0 rfl)) ?_
      refine l_step (y_load1 one_144 (et g0 rfl) (at1 (kF.cell (rF 8 _ rfl)))) ?_
      refine l_step (y_moveV (et (gS rfl (gS rfl (gS rfl (gS rfl (gS rfl g0))))) rfl)) ?_
      refine l_step (y_moveV (et (gS rfl (gS rfl (gS rfl (gS rfl (gS rfl (gS rfl g0)))))) rfl)) ?_
      refine l_step (y_slS011n Hvaa.underlying144 sz_95 (et (gS rfl (gS rfl g0)) rfl) (et (gS rfl g0) rfl) (et g0 rfl) ?_ ?_) ?_
      omega
      omega
      refine l_step (y_moveV (et (gS rfl (gS rfl (gS rfl (gS rfl (gS rfl (gS rfl (gS rfl (gS rfl (gS rfl (gS rfl g0)))))))))) rfl)) ?_
      refine l_eff (e_slice1 (k := 0) Hvaa.underlying144 sz_95 zr_95 rfl (by decide) (et g0 rfl) rfl) (fun v3 w3 h3 => ?_)
      obtain ⟨b3, rfl, n3⟩ := h3
      replace G := G.tr (Go.ofUp hF n3.up)
      replace hF := hF.up n3.up
      replace kF := kF.up n3.up
      replace U := U.tr n3.up
      have kb3 := n3.blk
      refine l_eff (e_appKK Hvaa.underlying144 sz_95 zr_95 by_95 rfl (by decide) (xs := f.stack.take (f.stack.length - tk)) (by rw [List.length_take]; omega) (et (gS rfl (gS rfl g0)) rfl) hF (LV.take0 (hSt.mono hL0) (by omega)) (et g0 rfl) rfl (show Blk _ _ [_].toArray from kb3) (by intro u hu; simp at hu; subst hu; rfl) ⟨_, rfl, hX, sX⟩ (by decide) (by rw [List.length_take]; omega)) (fun v4 w4 h4 => ?_)
      obtain ⟨H4, g4, lv4⟩ := h4
      have hlew4 := g4.le
      replace nbF := g4.nb nbF kF.lt
      replace hX := hX.mono hlew4
      replace hL0 := hL0.trans hlew4
      replace kF := kF.up g4.up
      replace U := U.tr g4.up
      replace G := G.tr g4
      replace hF := g4.fz
      obtain ⟨xa, xc, rfl, hxl, hxc⟩ := lv4.val
      refine l_step (y_nil (et (gS rfl (gS rfl (gS rfl (gS rfl (gS rfl (gS rfl (gS rfl (gS rfl (gS rfl (gS rfl g0)))))))))) rfl)) ?_
      exact (by
        refine l_step (y_fld fld_146_8 (et g0 rfl)) ?_
        have rl5 := RowIn.le rF (Nat.succ_pos _)
        simp only [List.length_cons, List.length_nil, Nat.zero_add, Nat.reduceAdd] at rl5
        refine l_effN (e_store sz_144 (et g0 rfl) (cellsV (et (gS rfl (gS rfl g0)) rfl) rfl) rfl (by first | exact one_bL _ | exact one_uL _ | (intro v hv; simp at hv; subst hv; rfl)) kF (by first | exact Nat.le_of_ble_eq_true rfl | (simp; done) | (simp; omega) | omega)) (fun v5 w5 h5 => ?_)
        obtain ⟨rfl, x5⟩ := h5
        replace kF := x5.blk
        replace G := G.wr x5 (.inl (by first | rfl | (simp; done))) nbF
        replace hF := G.fz
        replace U := U.st x5 (.inl (by first | rfl | (simp; done)))
        replace oF := kF.oput oF (by omega) (by omega)
        replace rF : RowIn _ _ [.int .u8 (f.kind : Nat), .int .u8 (f.ntv : Nat), .bool f.static, vpc, vgas, vval, voo, vol, _, vm, .slice ca f.code.length cc, .slice ia f.input.length ic] := kF.rput rF 8 rfl
        replace rSe := kF.rputo rSe (by first | (left; omega) | (right; simp only [List.length_cons, List.length_nil, length_bL, length_be, hSv.len]; omega))
        replace rCa := kF.rputo rCa (by first | (left; omega) | (right; simp only [List.length_cons, List.length_nil, length_bL, length_be, hSv.len]; omega))
        replace rSv := kF.rputo rSv (by first | (left; omega) | (right; simp only [List.length_cons, List.length_nil, length_bL, length_be, hSv.len]; omega))
        refine l_nil ?_
        refine hK2 _ _ ?_
        refine fg1 0 (gS rfl (gS rfl (gS rfl (gS rfl (gS rfl (gS rfl (gS rfl (gS rfl (gS rfl (gS rfl (gS rfl (gS rfl (gS rfl (gS rfl g0)))))))))))))) (fun g => ?_)
        refine c_draw Up 9 [(0, true), (1, true), (2, true), (3, true), (4, true), (5, false), (6, false), (7, true), (8, true), (9, false)] (by kernel_rfl) (fun w6 hu => ⟨Up.refl _, ?_⟩)
        replace G := G.tr (Go.ofUp hF hu)
        replace hF := hF.up hu
        replace kF := kF.up hu
        replace U := U.tr hu
        have SU := Up.refl w6
        refine p_step (by exact rfl) (y_moveV (et g0 rfl)) ?_
        refine p_step (by exact rfl) (y_moveV (et (gS rfl g0) rfl)) ?_
        refine p_step (by exact rfl) (y_nil (et g0 rfl)) ?_
        refine p_step (by exact rfl) (y_fld fld_146_3 (et g0 rfl)) ?_
        refine p_step (by exact rfl) (y_load1 one_95 (et g0 rfl) (atS (kF.cell (rF 3 _ rfl)))) ?_
        refine p_eff (by exact rfl) (e_callV cal_32 (aC (v := .int .u64 ((1 : Nat) : Int)) rfl aN) (yp_num (x := 1) hF (by decide))) (fun v7 w7 h7 => ?_)
        obtain ⟨H7, g7, n7⟩ := h7
        have hlew7 := g7.le
        replace nbF := g7.nb nbF kF.lt
        replace hX := hX.mono hlew7
        replace lv4 := lv4.mono hlew7
        replace hL0 := hL0.trans hlew7
        replace kF := kF.up g7.up
        replace U := U.tr g7.up
        replace G := G.tr g7
        replace hF := g7.fz
        have q7 : 1 < 256 ^ 1 := by decide
        refine ⟨.inr (SU.tr g7.up), ?_⟩
        replace SU := SU.tr g7.up
        exact (by
          refine p_eff (by exact rfl) (e_callV cal_34 (aC (et (gS rfl g0) rfl) (aC (et g0 rfl) aN)) (nat_add hF (hPc.mono hL0) n7 (bd_sm (bd_lt2 (b := 256 ^ 4) fo.pc (by decide)) (by decide)) (bd_sm q7 (by decide)))) (fun v8 w8 h8 => ?_)
          obtain ⟨H8, g8, n8⟩ := h8
          have hlew8 := g8.le
          replace nbF := g8.nb nbF kF.lt
          replace hX := hX.mono hlew8
          replace lv4 := lv4.mono hlew8
          replace n7 := n7.mono hlew8
          replace hL0 := hL0.trans hlew8
          replace kF := kF.up g8.up
          replace U := U.tr g8.up
          replace G := G.tr g8
          replace hF := g8.fz
          have q8 := bd_add (c := 5) (bd_lt2 (b := 256 ^ 4) fo.pc (by decide)) q7 (by decide)
          refine ⟨.inr (SU.tr g8.up), ?_⟩
          replace SU := SU.tr g8.up
          refine p_step (by exact rfl) (y_nil (et (gS rfl (gS rfl (gS rfl (gS rfl (gS rfl (gS rfl g0)))))) rfl)) ?_
          refine p_step (by exact rfl) (y_fld fld_146_3 (et g0 rfl)) ?_
          obtain ⟨sa9, sn9, sc9, rfl⟩ := n8.sl
          have rl9 := RowIn.le rF (Nat.succ_pos _)
          simp only [List.length_cons, List.length_nil, Nat.zero_add, Nat.reduceAdd] at rl9
          refine p_effN (by exact rfl) (e_store sz_95 (et g0 rfl) (cellsV (et (gS rfl (gS rfl g0)) rfl) rfl) rfl (by first | exact one_bL _ | exact one_uL _ | (intro v hv; simp at hv; subst hv; rfl)) kF (by first | exact Nat.le_of_ble_eq_true rfl | (simp; done) | (simp; omega) | omega)) (fun v9 w9 h9 => ?_)
          obtain ⟨rfl, x9⟩ := h9
          replace kF := x9.blk
          replace G := G.wr x9 (.inl (by first | rfl | (simp; done))) nbF
          replace hF := G.fz
          replace U := U.st x9 (.inl (by first | rfl | (simp; done)))
          replace oF := kF.oput oF (by omega) (by omega)
          replace rF : RowIn _ _ [.int .u8 (f.kind : Nat), .int .u8 (f.ntv : Nat), .bool f.static, _, vgas, vval, voo, vol, _, vm, .slice ca f.code.length cc, .slice ia f.input.length ic] := kF.rput rF 3 rfl
          replace rSe := kF.rputo rSe (by first | (left; omega) | (right; simp only [List.length_cons, List.length_nil, length_bL, length_be, hSv.len]; omega))
          replace rCa := kF.rputo rCa (by first | (left; omega) | (right; simp only [List.length_cons, List.length_nil, length_bL, length_be, hSv.len]; omega))
          replace rSv := kF.rputo rSv (by first | (left; omega) | (right; simp only [List.length_cons, List.length_nil, length_bL, length_be, hSv.len]; omega))
          refine ⟨.inl rfl, ?_⟩
          refine p_nil ?_
          refine end0 rfl ?_
          exact ⟨rfl, _, _, G, kF, ⟨⟨fo.kind, fo.ntv, hpc, fo.gas, fo.value, fo.outOff, fo.outLen, fo.self, fo.caller, by show (f.stack.take (f.stack.length - tk) ++ [x]).length < _; rw [List.length_append, List.length_take]; simp only [List.length_cons, List.length_nil]; omega, fo.code, fo.input, fo.mem⟩, _, _, _, _, _, _, _, _, _, _, _, _, rF, rSe, rCa, rSv, hSv.mono hL0, n8, (hGa.mono hL0), (hVa.mono hL0), (hOo.mono hL0), (hOl.mono hL0), lv4, (hCo.mono hL0), (hIn.mono hL0)⟩, oF⟩))))
theorem yp_wait {w : World} {H : Store} (hF : Fz w H) (bf o : Nat) (fs : Array Value) (f : YF) (vm : Value) (kF : Blk w bf fs) (hf : FC H fs o f vm) (nbF : ¬ H.has bf) (tk : Nat) (htk : tk ≤ f.stack.length) {v1 v2 : Value} {off n : Nat} (h1 : NV H v1 off) (h2 : NV H v2 n) (s1 : off < 256 ^ 32) (s2 : n < 256 ^ 32) :
    Ret 227 [.pointer (some ⟨bf, o, none⟩), .int .i64 tk, v1, v2] w (fun v w' => v = .tuple #[] ∧ ∃ fs' H', Go (fun k => k = bf) w H w' H' ∧ Blk w' bf fs' ∧ FC H' fs' o (waitN f tk off n) vm ∧ Out fs fs' o 60) := by
  obtain ⟨vpc, vgas, vval, voo, vol, ka, kc, ca, cc, ia, ic, svc, rF, rSe, rCa, rSv, hSv, hPc, hGa, hVa, hOo, hOl, hSt, hCo, hIn⟩ := hf.ex
  have fo := hf.ok
  have fo1 := fo.stack
  have fo2 := fo.code
  have fo3 := fo.input
  have fo4 := fo.mem
  have hkc := hSt.cap
  have hsl : (f.stack.take (f.stack.length - tk)).length = f.stack.length - tk := by rw [List.length_take]; omega
  have hLk : LV P_nat 1 H (.slice ka (f.stack.take (f.stack.length - tk)).length (f.stack.length - tk)) (f.stack.take (f.stack.length - tk)) := by rw [hsl]; exact LV.take0 hSt (by omega)
  have oF := Out.refl fs o 60
  refine enter (n := 41) Hvaa.func227 rfl rfl (Nat.le_of_ble_eq_true rfl) ?_
  have U : Ch (fun k => k = bf) w w := Ch.refl _ w
  have G : Go (fun k => k = bf) w H w H := Go.refl hF
  have hL0 : Le H H := Le.refl H
  refine c_seq (fun K1 hK1 => ?_)
  exact (by
    refine c_region ?_
    refine l_step (y_moveV (et g0 rfl)) ?_
    refine l_step (y_nil (et g0 rfl)) ?_
    refine l_step (y_fld fld_146_8 (et g0 rfl)) ?_
    refine l_step (y_load1 one_144 (et g0 rfl) (at1 (kF.cell (rF 8 _ rfl)))) ?_
    refine l_step (y_len Hvaa.underlying144 (et g0 rfl)) ?_
    refine l_step (y_moveV (et (gS rfl (gS rfl (gS rfl (gS rfl (gS rfl (gS rfl g0)))))) rfl)) ?_
    refine l_step (y_sub (et (gS rfl g0) rfl) (et g0 rfl) (subIN ?_ ?_)) ?_
    omega
    omega
    refine l_step (y_assignV (et g0 rfl)) ?_
    refine l_nil ?_
    refine hK1 _ _ ?_
    refine fg4 3 2 0 8 (gS rfl (gS rfl (gS rfl (gS rfl (gS rfl (gS rfl (gS rfl (gS rfl (gS rfl (gS rfl (gS rfl g0))))))))))) (gS rfl (gS rfl (gS rfl (gS rfl (gS rfl (gS rfl (gS rfl (gS rfl (gS rfl (gS rfl g0)))))))))) (gS rfl (gS rfl (gS rfl (gS rfl (gS rfl (gS rfl (gS rfl (gS rfl g0)))))))) g0 (fun g => ?_)
    refine c_seq (fun K2 hK2 => ?_)
    exact (by
      refine c_region ?_
      refine l_step (y_moveV (et (gS rfl g0) rfl)) ?_
      refine l_step (y_moveV (et (gS rfl (gS rfl g0)) rfl)) ?_
      refine l_step (y_nil (et g0 rfl)) ?_
      refine l_step (y_fld fld_146_8 (et g0 rfl)) ?_
      refine l_step (y_load1 one_144 (et g0 rfl) (at1 (kF.cell (rF 8 _ rfl)))) ?_
      refine l_step (y_moveV (et (gS rfl (gS rfl (gS rfl (gS rfl (gS rfl g0))))) rfl)) ?_
      refine l_step (y_moveV (et (gS rfl (gS rfl (gS rfl (gS rfl (gS rfl (gS rfl g0)))))) rfl)) ?_
      refine l_step ((y_slS011n Hvaa.underlying144 sz_95 (et (gS rfl (gS rfl g0)) rfl) (et (gS rfl g0) rfl) (et g0 rfl) ?_ ?_).to (show Value.slice ka (f.stack.length - tk) (f.stack.length - tk) = .slice ka (f.stack.take (f.stack.length - tk)).length (f.stack.length - tk) by rw [hsl])) ?_
      omega
      omega
      refine l_step (y_nil (et (gS rfl (gS rfl (gS rfl (gS rfl (gS rfl (gS rfl (gS rfl g0))))))) rfl)) ?_
      refine l_step (y_fld fld_146_8 (et g0 rfl)) ?_
      have rl3 := RowIn.le rF (Nat.succ_pos _)
      simp only [List.length_cons, List.length_nil, Nat.zero_add, Nat.reduceAdd] at rl3
      refine l_effN (e_store sz_144 (et g0 rfl) (cellsV (et (gS rfl (gS rfl g0)) rfl) rfl) rfl (by first | exact one_bL _ | exact one_uL _ | (intro v hv; simp at hv; subst hv; rfl)) kF (by first | exact Nat.le_of_ble_eq_true rfl | (simp; done) | (simp; omega) | omega)) (fun v3 w3 h3 => ?_)
      obtain ⟨rfl, x3⟩ := h3
      replace kF := x3.blk
      replace G := G.wr x3 (.inl (by first | rfl | (simp; done))) nbF
      replace hF := G.fz
      replace U := U.st x3 (.inl (by first | rfl | (simp; done)))
      replace oF := kF.oput oF (by omega) (by omega)
      replace rF : RowIn _ _ [.int .u8 (f.kind : Nat), .int .u8 (f.ntv : Nat), .bool f.static, vpc, vgas, vval, voo, vol, _, vm, .slice ca f.code.length cc, .slice ia f.input.length ic] := kF.rput rF 8 rfl
      replace rSe := kF.rputo rSe (by first | (left; omega) | (right; simp only [List.length_cons, List.length_nil, length_bL, length_be, hSv.len]; omega))
      replace rCa := kF.rputo rCa (by first | (left; omega) | (right; simp only [List.length_cons, List.length_nil, length_bL, length_be, hSv.len]; omega))
      replace rSv := kF.rputo rSv (by first | (left; omega) | (right; simp only [List.length_cons, List.length_nil, length_bL, length_be, hSv.len]; omega))
      refine l_nil ?_
      refine hK2 _ _ ?_
      refine fg3 3 2 0 (gS rfl (gS rfl (gS rfl (gS rfl (gS rfl (gS rfl (gS rfl (gS rfl (gS rfl (gS rfl (gS rfl (gS rfl (gS rfl g0))))))))))))) (gS rfl (gS rfl (gS rfl (gS rfl (gS rfl (gS rfl (gS rfl (gS rfl (gS rfl (gS rfl (gS rfl (gS rfl g0)))))))))))) (gS rfl (gS rfl (gS rfl (gS rfl (gS rfl (gS rfl (gS rfl (gS rfl (gS rfl (gS rfl (gS rfl g0))))))))))) (fun g => ?_)
      refine c_seq (fun K4 hK4 => ?_)
      exact (by
        refine c_region ?_
        refine l_step (y_moveV (et g0 rfl)) ?_
        refine l_step (y_moveV (et (gS rfl (gS rfl g0)) rfl)) ?_
        refine l_eff (e_callV cal_123 (aC (et g0 rfl) aN) (nat_normN hF h1 (bd_sm s1 (by decide)))) (fun v5 w5 h5 => ?_)
        obtain ⟨H5, g5, n5⟩ := h5
        have hlew5 := g5.le
        replace nbF := g5.nb nbF kF.lt
        replace h1 := h1.mono hlew5
        replace h2 := h2.mono hlew5
        replace hL0 := hL0.trans hlew5
        replace kF := kF.up g5.up
        replace U := U.tr g5.up
        replace G := G.tr g5
        replace hF := g5.fz
        have q5 := s1
        refine l_step (y_nil (et (gS rfl (gS rfl g0)) rfl)) ?_
        refine l_step (y_fld fld_146_6 (et g0 rfl)) ?_
        obtain ⟨sa6, sn6, sc6, rfl⟩ := n5.sl
        have rl6 := RowIn.le rF (Nat.succ_pos _)
        simp only [List.length_cons, List.length_nil, Nat.zero_add, Nat.reduceAdd] at rl6
        refine l_effN (e_store sz_95 (et g0 rfl) (cellsV (et (gS rfl (gS rfl g0)) rfl) rfl) rfl (by first | exact one_bL _ | exact one_uL _ | (intro v hv; simp at hv; subst hv; rfl)) kF (by first | exact Nat.le_of_ble_eq_true rfl | (simp; done) | (simp; omega) | omega)) (fun v6 w6 h6 => ?_)
        obtain ⟨rfl, x6⟩ := h6
        replace kF := x6.blk
        replace G := G.wr x6 (.inl (by first | rfl | (simp; done))) nbF
        replace hF := G.fz
        replace U := U.st x6 (.inl (by first | rfl | (simp; done)))
        replace oF := kF.oput oF (by omega) (by omega)
        replace rF : RowIn _ _ [.int .u8 (f.kind : Nat), .int .u8 (f.ntv : Nat), .bool f.static, vpc, vgas, vval, _, vol, _, vm, .slice ca f.code.length cc, .slice ia f.input.length ic] := kF.rput rF 6 rfl
        replace rSe := kF.rputo rSe (by first | (left; omega) | (right; simp only [List.length_cons, List.length_nil, length_bL, length_be, hSv.len]; omega))
        replace rCa := kF.rputo rCa (by first | (left; omega) | (right; simp only [List.length_cons, List.length_nil, length_bL, length_be, hSv.len]; omega))
        replace rSv := kF.rputo rSv (by first | (left; omega) | (right; simp only [List.length_cons, List.length_nil, length_bL, length_be, hSv.len]; omega))
        refine l_nil ?_
        refine hK4 _ _ ?_
        refine fg2 3 0 (gS rfl (gS rfl (gS rfl (gS rfl (gS rfl (gS rfl (gS rfl g0))))))) (gS rfl (gS rfl (gS rfl (gS rfl (gS rfl g0))))) (fun g => ?_)
        refine c_seq (fun K7 hK7 => ?_)
        exact (by
          refine c_region ?_
          refine l_step (y_moveV (et g0 rfl)) ?_
          refine l_step (y_moveV (et (gS rfl (gS rfl g0)) rfl)) ?_
          refine l_eff (e_callV cal_123 (aC (et g0 rfl) aN) (nat_normN hF h2 (bd_sm s2 (by decide)))) (fun v8 w8 h8 => ?_)
          obtain ⟨H8, g8, n8⟩ := h8
          have hlew8 := g8.le
          replace nbF := g8.nb nbF kF.lt
          replace h1 := h1.mono hlew8
          replace h2 := h2.mono hlew8
          replace n5 := n5.mono hlew8
          replace hL0 := hL0.trans hlew8
          replace kF := kF.up g8.up
          replace U := U.tr g8.up
          replace G := G.tr g8
          replace hF := g8.fz
          have q8 := s2
          refine l_step (y_nil (et (gS rfl (gS rfl g0)) rfl)) ?_
          refine l_step (y_fld fld_146_7 (et g0 rfl)) ?_
          obtain ⟨sa9, sn9, sc9, rfl⟩ := n8.sl
          have rl9 := RowIn.le rF (Nat.succ_pos _)
          simp only [List.length_cons, List.length_nil, Nat.zero_add, Nat.reduceAdd] at rl9
          refine l_effN (e_store sz_95 (et g0 rfl) (cellsV (et (gS rfl (gS rfl g0)) rfl) rfl) rfl (by first | exact one_bL _ | exact one_uL _ | (intro v hv; simp at hv; subst hv; rfl)) kF (by first | exact Nat.le_of_ble_eq_true rfl | (simp; done) | (simp; omega) | omega)) (fun v9 w9 h9 => ?_)
          obtain ⟨rfl, x9⟩ := h9
          replace kF := x9.blk
          replace G := G.wr x9 (.inl (by first | rfl | (simp; done))) nbF
          replace hF := G.fz
          replace U := U.st x9 (.inl (by first | rfl | (simp; done)))
          replace oF := kF.oput oF (by omega) (by omega)
          replace rF : RowIn _ _ [.int .u8 (f.kind : Nat), .int .u8 (f.ntv : Nat), .bool f.static, vpc, vgas, vval, _, _, _, vm, .slice ca f.code.length cc, .slice ia f.input.length ic] := kF.rput rF 7 rfl
          replace rSe := kF.rputo rSe (by first | (left; omega) | (right; simp only [List.length_cons, List.length_nil, length_bL, length_be, hSv.len]; omega))
          replace rCa := kF.rputo rCa (by first | (left; omega) | (right; simp only [List.length_cons, List.length_nil, length_bL, length_be, hSv.len]; omega))
          replace rSv := kF.rputo rSv (by first | (left; omega) | (right; simp only [List.length_cons, List.length_nil, length_bL, length_be, hSv.len]; omega))
          refine l_nil ?_
          refine hK7 _ _ ?_
          refine fg2 3 0 (gS rfl (gS rfl (gS rfl (gS rfl (gS rfl (gS rfl g0)))))) (gS rfl (gS rfl (gS rfl (gS rfl (gS rfl g0))))) (fun g => ?_)
          refine c_seq (fun K10 hK10 => ?_)
          exact (by
            refine c_region ?_
            refine l_step (y_moveV (et (gS rfl g0) rfl)) ?_
            refine l_eff (e_callV cal_79 (aC (et g0 rfl) aN) (yp_isZero hF h2 (bd_sm s2 (by decide)))) (fun v11 w11 h11 => ?_)
            obtain ⟨rfl, u11⟩ := h11
            replace G := G.tr (Go.ofUp hF u11)
            replace hF := hF.up u11
            replace kF := kF.up u11
            replace U := U.tr u11
            refine l_nil ?_
            refine hK10 _ _ ?_
            refine fg2 0 37 (gS rfl (gS rfl g0)) g0 (fun g => ?_)
            refine c_cond (et g0 rfl) (fun cB1 => ?_) (fun cB1 => ?_)
            · skip
              
              exact (by
                refine c_region ?_
                refine l_step (y_moveV (et (gS rfl g0) rfl)) ?_
                refine l_step (y_nil (et g0 rfl)) ?_
                refine l_step (y_fld fld_146_6 (et g0 rfl)) ?_
                have rl13 := RowIn.le rF (Nat.succ_pos _)
                simp only [List.length_cons, List.length_nil, Nat.zero_add, Nat.reduceAdd] at rl13
                refine l_effN (e_store sz_95 (et g0 rfl) (cellsV rfl rfl) rfl (by first | exact one_bL _ | exact one_uL _ | (intro v hv; simp at hv; subst hv; rfl)) kF (by first | exact Nat.le_of_ble_eq_true rfl | (simp; done) | (simp; omega) | omega)) (fun v13 w13 h13 => ?_)
                obtain ⟨rfl, x13⟩ := h13
                replace kF := x13.blk
                replace G := G.wr x13 (.inl (by first | rfl | (simp; done))) nbF
                replace hF := G.fz
                replace U := U.st x13 (.inl (by first | rfl | (simp; done)))
                replace oF := kF.oput oF (by omega) (by omega)
                replace rF : RowIn _ _ [.int .u8 (f.kind : Nat), .int .u8 (f.ntv : Nat), .bool f.static, vpc, vgas, vval, _, _, _, vm, .slice ca f.code.length cc, .slice ia f.input.length ic] := kF.rput rF 6 rfl
                replace rSe := kF.rputo rSe (by first | (left; omega) | (right; simp only [List.length_cons, List.length_nil, length_bL, length_be, hSv.len]; omega))
                replace rCa := kF.rputo rCa (by first | (left; omega) | (right; simp only [List.length_cons, List.length_nil, length_bL, length_be, hSv.len]; omega))
                replace rSv := kF.rputo rSv (by first | (left; omega) | (right; simp only [List.length_cons, List.length_nil, length_bL, length_be, hSv.len]; omega))
                refine l_nil ?_
                refine end0 rfl ?_
                have hz := of_decide_eq_true cB1
                have ew : waitN f tk off n = { f with stack := f.stack.take (f.stack.length - tk), outOff := 0, outLen := n } := by rw [waitN, if_pos hz]
                rw [ew]
                exact ⟨rfl, _, _, G, kF, ⟨⟨fo.kind, fo.ntv, fo.pc, fo.gas, fo.value, (show 0 < W256 by decide), W_bd s2, fo.self, fo.caller, by show (f.stack.take _).length < _; omega, fo.code, fo.input, fo.mem⟩, _, _, _, _, _, _, _, _, _, _, _, _, rF, rSe, rCa, rSv, hSv.mono hL0, (hPc.mono hL0), (hGa.mono hL0), (hVa.mono hL0), (NV.nil _), n8, (hLk.mono hL0), (hCo.mono hL0), (hIn.mono hL0)⟩, oF⟩)
            · skip
              
              refine c_skip ?_
              refine end0 rfl ?_
              have hz := of_decide_eq_false cB1
              have ew : waitN f tk off n = { f with stack := f.stack.take (f.stack.length - tk), outOff := off, outLen := n } := by rw [waitN, if_neg hz]
              rw [ew]
              exact ⟨rfl, _, _, G, kF, ⟨⟨fo.kind, fo.ntv, fo.pc, fo.gas, fo.value, W_bd s1, W_bd s2, fo.self, fo.caller, by show (f.stack.take _).length < _; omega, fo.code, fo.input, fo.mem⟩, _, _, _, _, _, _, _, _, _, _, _, _, rF, rSe, rCa, rSv, hSv.mono hL0, (hPc.mono hL0), (hGa.mono hL0), (hVa.mono hL0), n5, n8, (hLk.mono hL0), (hCo.mono hL0), (hIn.mono hL0)⟩, oF⟩)))))
end Go.Proofs.YgvaawGreat
