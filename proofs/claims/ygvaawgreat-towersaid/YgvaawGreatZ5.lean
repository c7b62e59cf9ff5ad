import Derived.Test.YgvaawGreatZ4
set_option maxRecDepth 100000
set_option maxHeartbeats 4000000
set_option linter.unusedSimpArgs false
set_option linter.unusedVariables false
namespace Go.Proofs.YgvaawGreat
open Go
theorem RowIn.at0 {cs : Array Value} {p o : Nat} {l : List Value} (h : RowIn cs p l) (e : o = p) : RowIn cs o l := by subst e; exact h
theorem destW_out {l : List Nat} {a : Nat} (h : l.length ≤ a) : ∀ n i, destW l a n i = false
  | 0, _ => rfl
  | n + 1, i => by
    unfold destW
    by_cases hi : i < l.length
    · rw [if_pos hi, if_neg (by omega)]
      exact destW_out h n _
    · rw [if_neg hi]
theorem dest_out {l : List Nat} {a : Nat} (h : l.length ≤ a) : destN l a = false := destW_out h _ _
def dynN (s : YSt) (f : YF) (q : Nat) : Nat :=
  if q = 10 then 50 * nbytes (argN f.stack 1)
  else if q = 32 then 6 * wordsN (lo64 (argN f.stack 1))
  else if q = 55 ∨ q = 57 ∨ q = 62 ∨ q = 94 then copyN (lo64 (argN f.stack 2))
  else if q = 49 ∨ q = 59 ∨ q = 63 then accessN s.now.warmA (yT f 0)
  else if q = 60 then accessN s.now.warmA (yT f 0) + copyN (lo64 (argN f.stack 3))
  else if 160 ≤ q ∧ q ≤ 164 then 8 * lo64 (argN f.stack 1)
  else if q = 84 then (if (f.self, yKey f) ∈ s.now.warmS then 100 else 2100)
  else if q = 85 then sCost (yOrig s f) (yVal s f) (argN f.stack 1) (yCold s f)
  else if q = 240 then 2 * wordsN (lo64 (argN f.stack 2))
  else if q = 245 then 8 * wordsN (lo64 (argN f.stack 2))
  else if q = 244 ∨ q = 250 then accessN s.now.warmA (yT f 1)
  else if q = 255 then dstC s f
  else if q = 241 ∨ q = 242 then accessN s.now.warmA (yT f 1) + (if argN f.stack 2 ≠ 0 then 9000 + (if q = 241 ∧ emptyB (acctAt s.now.accts (yT f 1)) = true then 25000 else 0) else 0)
  else 0
theorem m_sstore {w : World} {H : Store} {col : Nat → Nat} {bc : Nat} {cs : Array Value} {V : EV} {s : YSt} {sn : List Nat} {sv : List AW} {ms : List (List Nat)} {c : Nat} {low : List YF} {f : YF} (hE : EX w H col bc cs V s sn sv ms c) (hs : s.frames = low ++ [f]) (hp : s.phase = 1) {pf : Nat} (hpf : pf = 1803 + 65 * low.length) :
    Ret 368 [.pointer (some ⟨bc, 0, none⟩), .pointer (some ⟨bc, pf, none⟩)] w (fun v w' => v = .tuple #[.int .u64 (sCost (yOrig s f) (yVal s f) (argN f.stack 1) (yCold s f) : Nat), .int .u64 (sPlus (yOrig s f) (yVal s f) (argN f.stack 1) : Nat), .int .u64 (sMinus (yOrig s f) (yVal s f) (argN f.stack 1) : Nat)] ∧ Up w w') := by
  obtain ⟨n9, hn9, hR⟩ := hE.topF hs
  have hB := hE.fbT hs
  have h6 := hE.six hs
  have htop := hE.cTop hs
  have hphs := hE.cPh hp
  have hbp := hB.pc
  have hbs := hB.stk
  have hbg := hB.gas
  have hbc9 := hB.code
  have hnw := hE.vl.new
  have hfz := hE.vl.fz
  have hcC := hE.vl.colC
  have hbc0 := hE.vl.kC.lt
  refine enter (n := 39) Hvaa.func368 rfl rfl (Nat.le_of_ble_eq_true rfl) ?_
  have U := Up.refl w
  refine c_seq (fun K1 hK1 => ?_)
  exact (by
    refine c_region ?_
    refine l_step y_assignC ?_
    refine l_step y_assignC ?_
    refine l_step y_assignC ?_
    refine l_nil ?_
    refine hK1 _ _ ?_
    refine fg2 1 0 (gS rfl (gS rfl (gS rfl (gS rfl g0)))) (gS rfl (gS rfl (gS rfl g0))) (fun g => ?_)
    refine c_seq (fun K2 hK2 => ?_)
    exact (by
      refine c_region ?_
      refine l_step (y_moveV (et g0 rfl)) ?_
      refine l_step (y_moveV (et (gS rfl (gS rfl g0)) rfl)) ?_
      refine l_eff (e_callV cal_264 (aC (et (gS rfl g0) rfl) (aC (et g0 rfl) (aC (v := .int .i64 ((0 : Nat) : Int)) rfl aN))) (m_arg hE hs hp (by first | exact hpf | rfl) _ (by decide))) (fun v3 w3 h3 => ?_)
      obtain ⟨rfl, u3⟩ := h3
      replace hE := hE.up u3
      replace U := U.tr u3
      refine l_eff (e_alloc zr_65) (fun v4 w4 h4 => ?_)
      obtain ⟨b4, rfl, n4⟩ := h4
      have f4 : w.heap.size ≤ b4 := Nat.le_trans U.size n4.fresh
      replace hE := hE.up n4.up
      replace U := U.tr n4.up
      have k4 := n4.blk
      refine l_effN (e_store sz_65 (et g0 rfl) (cellsV (et (gS rfl g0) rfl) rfl) (by first | (simp only [Value.cells, hV, aV, bV, wV, wL, List.size_toArray, length_bL, length_uL, length_be, size_spl, List.length_cons, List.length_nil, List.length_replicate, Nat.zero_add, Nat.reduceAdd, Nat.reduceLeDiff, Nat.le_refl]; done) | rfl) (by first | exact one_bL _ | exact one_uL _ | (intro v hv; simp at hv; subst hv; rfl)) k4 (by first | (simp only [Value.cells, hV, aV, bV, wV, wL, List.size_toArray, length_bL, length_uL, length_be, size_spl, List.length_cons, List.length_nil, List.length_replicate, Nat.zero_add, Nat.reduceAdd, Nat.reduceLeDiff, Nat.le_refl]; done) | exact Nat.le_of_ble_eq_true rfl | simp | omega)) (fun v5 w5 h5 => ?_)
      obtain ⟨rfl, x5⟩ := h5
      replace hE := hE.ch x5.ch (by first | omega | (intro b hb; first | (subst hb; exact ⟨hnw _ (by omega), fun hh => by have := hfz.lt hh; omega⟩) | (rcases hb with hb | hb <;> (subst hb; exact ⟨hnw _ (by omega), fun hh => by have := hfz.lt hh; omega⟩))))
      replace k4 := x5.blk.full (by first | (simp only [Value.cells, hV, aV, bV, wV, wL, List.size_toArray, length_bL, length_uL, length_be, size_spl, List.length_cons, List.length_nil, List.length_replicate, Nat.zero_add, Nat.reduceAdd, Nat.reduceLeDiff, Nat.le_refl]; done) | rfl)
      replace U := U.st x5 f4
      refine l_nil ?_
      refine hK2 _ _ ?_
      refine fg3 1 0 7 (gS rfl (gS rfl (gS rfl (gS rfl (gS rfl g0))))) (gS rfl (gS rfl (gS rfl (gS rfl g0)))) g0 (fun g => ?_)
      refine c_seq (fun K6 hK6 => ?_)
      exact (by
        refine fgv3 0 1 7 (gS rfl g0) (gS rfl (gS rfl g0)) g0 (fun g z0 z1 z7 e0 e1 e7 => ?_)
        refine c_drawJ (fun s_ w_ => ∃ (g : Nat → Value) (b8 : Nat) (b9 : Nat), s_ = (upd (upd (upd (upd (upd g 0 z0) 1 z1) 8 (.pointer (some ⟨b8, 0, none⟩))) 9 (.pointer (some ⟨b9, 0, none⟩))) 10 (.bool (sx V f.self (argN f.stack 0)).warm)) ∧ Ch (fun _ => False) w5 w_ ∧ w5.heap.size ≤ b8 ∧ Blk w_ b8 ((wL (sx V f.self (argN f.stack 0)).val).toArray) ∧ w5.heap.size ≤ b9 ∧ Blk w_ b9 ((wL (sx V f.self (argN f.stack 0)).orig).toArray)) Up 19 (.pure 0 (.pure 1 (.pure 2 (.pure 3 (.pure 4 (.pure 5 (.pure 6 (.pure 7 (.pure 8 (.three 9 (.pure 10 (.pure 11 (.pure 12 (.pure 13 (.two 14 (.eff 15 (.eff 16 (.eff 17 (.pure 18 .fin)))) 15 (.eff 14 (.eff 16 (.eff 17 (.pure 18 .fin))))))))) 14 (.two 9 (.pure 10 (.pure 11 (.pure 12 (.pure 13 (.eff 15 (.eff 16 (.eff 17 (.pure 18 .fin)))))))) 15 (.eff 9 (.pure 10 (.pure 11 (.pure 12 (.pure 13 (.eff 16 (.eff 17 (.pure 18 .fin))))))))) 15 (.two 9 (.pure 10 (.pure 11 (.pure 12 (.pure 13 (.eff 14 (.eff 16 (.eff 17 (.pure 18 .fin)))))))) 14 (.eff 9 (.pure 10 (.pure 11 (.pure 12 (.pure 13 (.eff 16 (.eff 17 (.pure 18 .fin))))))))))))))))))) (by kernel_rfl) (fun w10 hu => ⟨Up.refl _, ?_⟩) ?_
        · skip
          subst e0 e1 e7
          replace k4 := k4.up hu
          replace hE := hE.up hu
          replace U := U.tr hu
          have SU := Up.refl w10
          have V7 : Ch (fun _ => False) w5 w10 := hu
          refine t_step (by exact rfl) (y_moveV (et (gS rfl (gS rfl g0)) rfl)) ?_
          refine t_step (by exact rfl) (y_nil (et g0 rfl)) ?_
          refine t_step (by exact rfl) (y_fld fld_75_0 (et g0 rfl)) ?_
          refine t_step (by exact rfl) (y_load1 one_59 (et g0 rfl) (atS (hE.vl.c1 hE.lx.pS rfl))) ?_
          refine t_step (by exact rfl) (y_moveV (et (gS rfl (gS rfl (gS rfl (gS rfl (gS rfl g0))))) rfl)) ?_
          refine t_step (by exact rfl) (y_nil (et g0 rfl)) ?_
          refine t_step (by exact rfl) (y_fld fld_71_9 (et g0 rfl)) ?_
          refine t_step (by exact rfl) (y_loadR agg_25 sz_25 (et g0 rfl) (by rw [length_bL, length_be]) (atSR (hE.vl.kC.rowO hR.r2 (by omega)))) ?_
          refine t_step (by exact rfl) (y_loadB agg_65 sz_65 (et (gS rfl (gS rfl (gS rfl (gS rfl (gS rfl (gS rfl (gS rfl (gS rfl g0)))))))) rfl) rfl (atSB k4)) ?_
          refine t_three ?_ ?_ ?_
          · skip
            refine t_eff (by exact rfl) (e_callV cal_304 (aC (et (gS rfl (gS rfl (gS rfl (gS rfl (gS rfl g0))))) rfl) (aC (et (gS rfl g0) rfl) (aC (et g0 rfl) aN))) (v_peek hE.vl hE.ok _ _ (by first | exact Nat.mod_lt _ A160_pos | exact hB.self | exact hB.caller | assumption) (by first | exact argN_lt hB _ | exact hB.value | assumption | decide | exact Nat.mod_lt _ (by decide)))) (fun v11 w11 h11 => ?_)
            obtain ⟨rfl, u11⟩ := h11
            replace k4 := k4.up u11
            replace hE := hE.up u11
            replace U := U.tr u11
            replace V7 := V7.tr u11
            refine ⟨.inr (SU.tr u11), ?_⟩
            replace SU := SU.tr u11
            refine t_step (by exact rfl) (y_moveV (et g0 rfl)) ?_
            refine t_step (by exact rfl) (y_ext (et g0 rfl) rfl) ?_
            refine t_step (by exact rfl) (y_ext (et (gS rfl g0) rfl) rfl) ?_
            refine t_step (by exact rfl) (y_ext (et (gS rfl (gS rfl g0)) rfl) rfl) ?_
            refine t_two ?_ ?_
            · skip
              refine t_eff (by exact rfl) (e_alloc zr_65) (fun v12 w12 h12 => ?_)
              obtain ⟨b12, rfl, n12⟩ := h12
              have d4_12 : b4 < b12 := Nat.lt_of_lt_of_le k4.lt n12.fresh
              have f12 : w.heap.size ≤ b12 := Nat.le_trans U.size n12.fresh
              have fS12 := Nat.le_trans SU.size n12.fresh
              have fV7_12 := Nat.le_trans V7.size n12.fresh
              replace k4 := k4.up n12.up
              replace hE := hE.up n12.up
              replace U := U.tr n12.up
              replace V7 := V7.tr n12.up
              have k12 := n12.blk
              refine ⟨.inr (SU.tr n12.up), ?_⟩
              replace SU := SU.tr n12.up
              refine t_one ?_
              refine t_eff (by exact rfl) (e_alloc zr_65) (fun v13 w13 h13 => ?_)
              obtain ⟨b13, rfl, n13⟩ := h13
              have d4_13 : b4 < b13 := Nat.lt_of_lt_of_le k4.lt n13.fresh
              have d12_13 : b12 < b13 := Nat.lt_of_lt_of_le k12.lt n13.fresh
              have f13 : w.heap.size ≤ b13 := Nat.le_trans U.size n13.fresh
              have fS13 := Nat.le_trans SU.size n13.fresh
              have fV7_13 := Nat.le_trans V7.size n13.fresh
              replace k4 := k4.up n13.up
              replace k12 := k12.up n13.up
              replace hE := hE.up n13.up
              replace U := U.tr n13.up
              replace V7 := V7.tr n13.up
              have k13 := n13.blk
              refine ⟨.inr (SU.tr n13.up), ?_⟩
              replace SU := SU.tr n13.up
              refine t_one ?_
              refine t_effN (by exact rfl) (e_store sz_65 (et (gS rfl g0) rfl) (cellsV (et (gS rfl (gS rfl (gS rfl (gS rfl g0)))) rfl) rfl) (by first | (simp only [Value.cells, hV, aV, bV, wV, wL, List.size_toArray, length_bL, length_uL, length_be, size_spl, List.length_cons, List.length_nil, List.length_replicate, Nat.zero_add, Nat.reduceAdd, Nat.reduceLeDiff, Nat.le_refl]; done) | rfl) (by first | exact one_bL _ | exact one_uL _ | (intro v hv; simp at hv; subst hv; rfl)) k12 (by first | (simp only [Value.cells, hV, aV, bV, wV, wL, List.size_toArray, length_bL, length_uL, length_be, size_spl, List.length_cons, List.length_nil, List.length_replicate, Nat.zero_add, Nat.reduceAdd, Nat.reduceLeDiff, Nat.le_refl]; done) | exact Nat.le_of_ble_eq_true rfl | simp | omega)) (fun v14 w14 h14 => ?_)
              obtain ⟨rfl, x14⟩ := h14
              replace k4 := k4.ch x14.ch (by omega)
              replace k13 := k13.ch x14.ch (by omega)
              replace hE := hE.ch x14.ch (by first | omega | (intro b hb; first | (subst hb; exact ⟨hnw _ (by omega), fun hh => by have := hfz.lt hh; omega⟩) | (rcases hb with hb | hb <;> (subst hb; exact ⟨hnw _ (by omega), fun hh => by have := hfz.lt hh; omega⟩))))
              replace k12 := x14.blk.full (by first | (simp only [Value.cells, hV, aV, bV, wV, wL, List.size_toArray, length_bL, length_uL, length_be, size_spl, List.length_cons, List.length_nil, List.length_replicate, Nat.zero_add, Nat.reduceAdd, Nat.reduceLeDiff, Nat.le_refl]; done) | rfl)
              replace U := U.st x14 f12
              replace V7 := V7.st x14 (by omega)
              refine ⟨.inr (SU.st x14 (by omega)), ?_⟩
              replace SU := SU.st x14 (by omega)
              refine t_one ?_
              refine t_effN (by exact rfl) (e_store sz_65 (et g0 rfl) (cellsV (et (gS rfl (gS rfl (gS rfl g0))) rfl) rfl) (by first | (simp only [Value.cells, hV, aV, bV, wV, wL, List.size_toArray, length_bL, length_uL, length_be, size_spl, List.length_cons, List.length_nil, List.length_replicate, Nat.zero_add, Nat.reduceAdd, Nat.reduceLeDiff, Nat.le_refl]; done) | rfl) (by first | exact one_bL _ | exact one_uL _ | (intro v hv; simp at hv; subst hv; rfl)) k13 (by first | (simp only [Value.cells, hV, aV, bV, wV, wL, List.size_toArray, length_bL, length_uL, length_be, size_spl, List.length_cons, List.length_nil, List.length_replicate, Nat.zero_add, Nat.reduceAdd, Nat.reduceLeDiff, Nat.le_refl]; done) | exact Nat.le_of_ble_eq_true rfl | simp | omega)) (fun v15 w15 h15 => ?_)
              obtain ⟨rfl, x15⟩ := h15
              replace k4 := k4.ch x15.ch (by omega)
              replace k12 := k12.ch x15.ch (by omega)
              replace hE := hE.ch x15.ch (by first | omega | (intro b hb; first | (subst hb; exact ⟨hnw _ (by omega), fun hh => by have := hfz.lt hh; omega⟩) | (rcases hb with hb | hb <;> (subst hb; exact ⟨hnw _ (by omega), fun hh => by have := hfz.lt hh; omega⟩))))
              replace k13 := x15.blk.full (by first | (simp only [Value.cells, hV, aV, bV, wV, wL, List.size_toArray, length_bL, length_uL, length_be, size_spl, List.length_cons, List.length_nil, List.length_replicate, Nat.zero_add, Nat.reduceAdd, Nat.reduceLeDiff, Nat.le_refl]; done) | rfl)
              replace U := U.st x15 f13
              replace V7 := V7.st x15 (by omega)
              refine ⟨.inr (SU.st x15 (by omega)), ?_⟩
              replace SU := SU.st x15 (by omega)
              refine t_step (by exact rfl) (y_assignV (et (gS rfl (gS rfl g0)) rfl)) ?_
              refine tl5 0 1 8 9 10 (gS rfl (gS rfl (gS rfl (gS rfl (gS rfl (gS rfl (gS rfl (gS rfl (gS rfl (gS rfl (gS rfl (gS rfl (gS rfl (gS rfl (gS rfl (gS rfl (gS rfl (gS rfl (gS rfl g0))))))))))))))))))) (gS rfl (gS rfl (gS rfl (gS rfl (gS rfl (gS rfl (gS rfl (gS rfl (gS rfl (gS rfl (gS rfl (gS rfl (gS rfl (gS rfl (gS rfl (gS rfl (gS rfl (gS rfl g0)))))))))))))))))) (gS rfl (gS rfl g0)) (gS rfl g0) g0 (fun g => ?_)
              exact ⟨g, _, _, rfl, V7, Nat.le_trans hu.size fS12, k12, Nat.le_trans hu.size fS13, k13⟩
            · skip
              refine t_eff (by exact rfl) (e_alloc zr_65) (fun v16 w16 h16 => ?_)
              obtain ⟨b16, rfl, n16⟩ := h16
              have d4_16 : b4 < b16 := Nat.lt_of_lt_of_le k4.lt n16.fresh
              have f16 : w.heap.size ≤ b16 := Nat.le_trans U.size n16.fresh
              have fS16 := Nat.le_trans SU.size n16.fresh
              have fV7_16 := Nat.le_trans V7.size n16.fresh
              replace k4 := k4.up n16.up
              replace hE := hE.up n16.up
              replace U := U.tr n16.up
              replace V7 := V7.tr n16.up
              have k16 := n16.blk
              refine ⟨.inr (SU.tr n16.up), ?_⟩
              replace SU := SU.tr n16.up
              refine t_one ?_
              refine t_eff (by exact rfl) (e_alloc zr_65) (fun v17 w17 h17 => ?_)
              obtain ⟨b17, rfl, n17⟩ := h17
              have d4_17 : b4 < b17 := Nat.lt_of_lt_of_le k4.lt n17.fresh
              have d16_17 : b16 < b17 := Nat.lt_of_lt_of_le k16.lt n17.fresh
              have f17 : w.heap.size ≤ b17 := Nat.le_trans U.size n17.fresh
              have fS17 := Nat.le_trans SU.size n17.fresh
              have fV7_17 := Nat.le_trans V7.size n17.fresh
              replace k4 := k4.up n17.up
              replace k16 := k16.up n17.up
              replace hE := hE.up n17.up
              replace U := U.tr n17.up
              replace V7 := V7.tr n17.up
              have k17 := n17.blk
              refine ⟨.inr (SU.tr n17.up), ?_⟩
              replace SU := SU.tr n17.up
              refine t_one ?_
              refine t_effN (by exact rfl) (e_store sz_65 (et g0 rfl) (cellsV (et (gS rfl (gS rfl (gS rfl (gS rfl g0)))) rfl) rfl) (by first | (simp only [Value.cells, hV, aV, bV, wV, wL, List.size_toArray, length_bL, length_uL, length_be, size_spl, List.length_cons, List.length_nil, List.length_replicate, Nat.zero_add, Nat.reduceAdd, Nat.reduceLeDiff, Nat.le_refl]; done) | rfl) (by first | exact one_bL _ | exact one_uL _ | (intro v hv; simp at hv; subst hv; rfl)) k17 (by first | (simp only [Value.cells, hV, aV, bV, wV, wL, List.size_toArray, length_bL, length_uL, length_be, size_spl, List.length_cons, List.length_nil, List.length_replicate, Nat.zero_add, Nat.reduceAdd, Nat.reduceLeDiff, Nat.le_refl]; done) | exact Nat.le_of_ble_eq_true rfl | simp | omega)) (fun v18 w18 h18 => ?_)
              obtain ⟨rfl, x18⟩ := h18
              replace k4 := k4.ch x18.ch (by omega)
              replace k16 := k16.ch x18.ch (by omega)
              replace hE := hE.ch x18.ch (by first | omega | (intro b hb; first | (subst hb; exact ⟨hnw _ (by omega), fun hh => by have := hfz.lt hh; omega⟩) | (rcases hb with hb | hb <;> (subst hb; exact ⟨hnw _ (by omega), fun hh => by have := hfz.lt hh; omega⟩))))
              replace k17 := x18.blk.full (by first | (simp only [Value.cells, hV, aV, bV, wV, wL, List.size_toArray, length_bL, length_uL, length_be, size_spl, List.length_cons, List.length_nil, List.length_replicate, Nat.zero_add, Nat.reduceAdd, Nat.reduceLeDiff, Nat.le_refl]; done) | rfl)
              replace U := U.st x18 f17
              replace V7 := V7.st x18 (by omega)
              refine ⟨.inr (SU.st x18 (by omega)), ?_⟩
              replace SU := SU.st x18 (by omega)
              refine t_one ?_
              refine t_effN (by exact rfl) (e_store sz_65 (et (gS rfl g0) rfl) (cellsV (et (gS rfl (gS rfl (gS rfl g0))) rfl) rfl) (by first | (simp only [Value.cells, hV, aV, bV, wV, wL, List.size_toArray, length_bL, length_uL, length_be, size_spl, List.length_cons, List.length_nil, List.length_replicate, Nat.zero_add, Nat.reduceAdd, Nat.reduceLeDiff, Nat.le_refl]; done) | rfl) (by first | exact one_bL _ | exact one_uL _ | (intro v hv; simp at hv; subst hv; rfl)) k16 (by first | (simp only [Value.cells, hV, aV, bV, wV, wL, List.size_toArray, length_bL, length_uL, length_be, size_spl, List.length_cons, List.length_nil, List.length_replicate, Nat.zero_add, Nat.reduceAdd, Nat.reduceLeDiff, Nat.le_refl]; done) | exact Nat.le_of_ble_eq_true rfl | simp | omega)) (fun v19 w19 h19 => ?_)
              obtain ⟨rfl, x19⟩ := h19
              replace k4 := k4.ch x19.ch (by omega)
              replace k17 := k17.ch x19.ch (by omega)
              replace hE := hE.ch x19.ch (by first | omega | (intro b hb; first | (subst hb; exact ⟨hnw _ (by omega), fun hh => by have := hfz.lt hh; omega⟩) | (rcases hb with hb | hb <;> (subst hb; exact ⟨hnw _ (by omega), fun hh => by have := hfz.lt hh; omega⟩))))
              replace k16 := x19.blk.full (by first | (simp only [Value.cells, hV, aV, bV, wV, wL, List.size_toArray, length_bL, length_uL, length_be, size_spl, List.length_cons, List.length_nil, List.length_replicate, Nat.zero_add, Nat.reduceAdd, Nat.reduceLeDiff, Nat.le_refl]; done) | rfl)
              replace U := U.st x19 f16
              replace V7 := V7.st x19 (by omega)
              refine ⟨.inr (SU.st x19 (by omega)), ?_⟩
              replace SU := SU.st x19 (by omega)
              refine t_step (by exact rfl) (y_assignV (et (gS rfl (gS rfl g0)) rfl)) ?_
              refine tl5 0 1 8 9 10 (gS rfl (gS rfl (gS rfl (gS rfl (gS rfl (gS rfl (gS rfl (gS rfl (gS rfl (gS rfl (gS rfl (gS rfl (gS rfl (gS rfl (gS rfl (gS rfl (gS rfl (gS rfl (gS rfl g0))))))))))))))))))) (gS rfl (gS rfl (gS rfl (gS rfl (gS rfl (gS rfl (gS rfl (gS rfl (gS rfl (gS rfl (gS rfl (gS rfl (gS rfl (gS rfl (gS rfl (gS rfl (gS rfl (gS rfl g0)))))))))))))))))) (gS rfl g0) (gS rfl (gS rfl g0)) g0 (fun g => ?_)
              exact ⟨g, _, _, rfl, V7, Nat.le_trans hu.size fS17, k17, Nat.le_trans hu.size fS16, k16⟩
          · skip
            refine t_eff (by exact rfl) (e_alloc zr_65) (fun v20 w20 h20 => ?_)
            obtain ⟨b20, rfl, n20⟩ := h20
            have d4_20 : b4 < b20 := Nat.lt_of_lt_of_le k4.lt n20.fresh
            have f20 : w.heap.size ≤ b20 := Nat.le_trans U.size n20.fresh
            have fS20 := Nat.le_trans SU.size n20.fresh
            have fV7_20 := Nat.le_trans V7.size n20.fresh
            replace k4 := k4.up n20.up
            replace hE := hE.up n20.up
            replace U := U.tr n20.up
            replace V7 := V7.tr n20.up
            have k20 := n20.blk
            refine ⟨.inr (SU.tr n20.up), ?_⟩
            replace SU := SU.tr n20.up
            refine t_two ?_ ?_
            · skip
              refine t_eff (by exact rfl) (e_callV cal_304 (aC (et (gS rfl (gS rfl (gS rfl (gS rfl (gS rfl (gS rfl g0)))))) rfl) (aC (et (gS rfl (gS rfl g0)) rfl) (aC (et (gS rfl g0) rfl) aN))) (v_peek hE.vl hE.ok _ _ (by first | exact Nat.mod_lt _ A160_pos | exact hB.self | exact hB.caller | assumption) (by first | exact argN_lt hB _ | exact hB.value | assumption | decide | exact Nat.mod_lt _ (by decide)))) (fun v21 w21 h21 => ?_)
              obtain ⟨rfl, u21⟩ := h21
              replace k4 := k4.up u21
              replace k20 := k20.up u21
              replace hE := hE.up u21
              replace U := U.tr u21
              replace V7 := V7.tr u21
              refine ⟨.inr (SU.tr u21), ?_⟩
              replace SU := SU.tr u21
              refine t_step (by exact rfl) (y_moveV (et g0 rfl)) ?_
              refine t_step (by exact rfl) (y_ext (et g0 rfl) rfl) ?_
              refine t_step (by exact rfl) (y_ext (et (gS rfl g0) rfl) rfl) ?_
              refine t_step (by exact rfl) (y_ext (et (gS rfl (gS rfl g0)) rfl) rfl) ?_
              refine t_one ?_
              refine t_eff (by exact rfl) (e_alloc zr_65) (fun v22 w22 h22 => ?_)
              obtain ⟨b22, rfl, n22⟩ := h22
              have d4_22 : b4 < b22 := Nat.lt_of_lt_of_le k4.lt n22.fresh
              have d20_22 : b20 < b22 := Nat.lt_of_lt_of_le k20.lt n22.fresh
              have f22 : w.heap.size ≤ b22 := Nat.le_trans U.size n22.fresh
              have fS22 := Nat.le_trans SU.size n22.fresh
              have fV7_22 := Nat.le_trans V7.size n22.fresh
              replace k4 := k4.up n22.up
              replace k20 := k20.up n22.up
              replace hE := hE.up n22.up
              replace U := U.tr n22.up
              replace V7 := V7.tr n22.up
              have k22 := n22.blk
              refine ⟨.inr (SU.tr n22.up), ?_⟩
              replace SU := SU.tr n22.up
              refine t_one ?_
              refine t_effN (by exact rfl) (e_store sz_65 (et (gS rfl (gS rfl (gS rfl (gS rfl (gS rfl (gS rfl g0)))))) rfl) (cellsV (et (gS rfl (gS rfl (gS rfl g0))) rfl) rfl) (by first | (simp only [Value.cells, hV, aV, bV, wV, wL, List.size_toArray, length_bL, length_uL, length_be, size_spl, List.length_cons, List.length_nil, List.length_replicate, Nat.zero_add, Nat.reduceAdd, Nat.reduceLeDiff, Nat.le_refl]; done) | rfl) (by first | exact one_bL _ | exact one_uL _ | (intro v hv; simp at hv; subst hv; rfl)) k20 (by first | (simp only [Value.cells, hV, aV, bV, wV, wL, List.size_toArray, length_bL, length_uL, length_be, size_spl, List.length_cons, List.length_nil, List.length_replicate, Nat.zero_add, Nat.reduceAdd, Nat.reduceLeDiff, Nat.le_refl]; done) | exact Nat.le_of_ble_eq_true rfl | simp | omega)) (fun v23 w23 h23 => ?_)
              obtain ⟨rfl, x23⟩ := h23
              replace k4 := k4.ch x23.ch (by omega)
              replace k22 := k22.ch x23.ch (by omega)
              replace hE := hE.ch x23.ch (by first | omega | (intro b hb; first | (subst hb; exact ⟨hnw _ (by omega), fun hh => by have := hfz.lt hh; omega⟩) | (rcases hb with hb | hb <;> (subst hb; exact ⟨hnw _ (by omega), fun hh => by have := hfz.lt hh; omega⟩))))
              replace k20 := x23.blk.full (by first | (simp only [Value.cells, hV, aV, bV, wV, wL, List.size_toArray, length_bL, length_uL, length_be, size_spl, List.length_cons, List.length_nil, List.length_replicate, Nat.zero_add, Nat.reduceAdd, Nat.reduceLeDiff, Nat.le_refl]; done) | rfl)
              replace U := U.st x23 f20
              replace V7 := V7.st x23 (by omega)
              refine ⟨.inr (SU.st x23 (by omega)), ?_⟩
              replace SU := SU.st x23 (by omega)
              refine t_one ?_
              refine t_effN (by exact rfl) (e_store sz_65 (et g0 rfl) (cellsV (et (gS rfl (gS rfl g0)) rfl) rfl) (by first | (simp only [Value.cells, hV, aV, bV, wV, wL, List.size_toArray, length_bL, length_uL, length_be, size_spl, List.length_cons, List.length_nil, List.length_replicate, Nat.zero_add, Nat.reduceAdd, Nat.reduceLeDiff, Nat.le_refl]; done) | rfl) (by first | exact one_bL _ | exact one_uL _ | (intro v hv; simp at hv; subst hv; rfl)) k22 (by first | (simp only [Value.cells, hV, aV, bV, wV, wL, List.size_toArray, length_bL, length_uL, length_be, size_spl, List.length_cons, List.length_nil, List.length_replicate, Nat.zero_add, Nat.reduceAdd, Nat.reduceLeDiff, Nat.le_refl]; done) | exact Nat.le_of_ble_eq_true rfl | simp | omega)) (fun v24 w24 h24 => ?_)
              obtain ⟨rfl, x24⟩ := h24
              replace k4 := k4.ch x24.ch (by omega)
              replace k20 := k20.ch x24.ch (by omega)
              replace hE := hE.ch x24.ch (by first | omega | (intro b hb; first | (subst hb; exact ⟨hnw _ (by omega), fun hh => by have := hfz.lt hh; omega⟩) | (rcases hb with hb | hb <;> (subst hb; exact ⟨hnw _ (by omega), fun hh => by have := hfz.lt hh; omega⟩))))
              replace k22 := x24.blk.full (by first | (simp only [Value.cells, hV, aV, bV, wV, wL, List.size_toArray, length_bL, length_uL, length_be, size_spl, List.length_cons, List.length_nil, List.length_replicate, Nat.zero_add, Nat.reduceAdd, Nat.reduceLeDiff, Nat.le_refl]; done) | rfl)
              replace U := U.st x24 f22
              replace V7 := V7.st x24 (by omega)
              refine ⟨.inr (SU.st x24 (by omega)), ?_⟩
              replace SU := SU.st x24 (by omega)
              refine t_step (by exact rfl) (y_assignV (et (gS rfl g0) rfl)) ?_
              refine tl5 0 1 8 9 10 (gS rfl (gS rfl (gS rfl (gS rfl (gS rfl (gS rfl (gS rfl (gS rfl (gS rfl (gS rfl (gS rfl (gS rfl (gS rfl (gS rfl (gS rfl (gS rfl (gS rfl (gS rfl (gS rfl g0))))))))))))))))))) (gS rfl (gS rfl (gS rfl (gS rfl (gS rfl (gS rfl (gS rfl (gS rfl (gS rfl (gS rfl (gS rfl (gS rfl (gS rfl (gS rfl (gS rfl (gS rfl (gS rfl (gS rfl g0)))))))))))))))))) (gS rfl (gS rfl (gS rfl (gS rfl (gS rfl (gS rfl (gS rfl g0))))))) (gS rfl g0) g0 (fun g => ?_)
              exact ⟨g, _, _, rfl, V7, Nat.le_trans hu.size fS20, k20, Nat.le_trans hu.size fS22, k22⟩
            · skip
              refine t_eff (by exact rfl) (e_alloc zr_65) (fun v25 w25 h25 => ?_)
              obtain ⟨b25, rfl, n25⟩ := h25
              have d4_25 : b4 < b25 := Nat.lt_of_lt_of_le k4.lt n25.fresh
              have d20_25 : b20 < b25 := Nat.lt_of_lt_of_le k20.lt n25.fresh
              have f25 : w.heap.size ≤ b25 := Nat.le_trans U.size n25.fresh
              have fS25 := Nat.le_trans SU.size n25.fresh
              have fV7_25 := Nat.le_trans V7.size n25.fresh
              replace k4 := k4.up n25.up
              replace k20 := k20.up n25.up
              replace hE := hE.up n25.up
              replace U := U.tr n25.up
              replace V7 := V7.tr n25.up
              have k25 := n25.blk
              refine ⟨.inr (SU.tr n25.up), ?_⟩
              replace SU := SU.tr n25.up
              refine t_one ?_
              refine t_eff (by exact rfl) (e_callV cal_304 (aC (et (gS rfl (gS rfl (gS rfl (gS rfl (gS rfl (gS rfl (gS rfl g0))))))) rfl) (aC (et (gS rfl (gS rfl (gS rfl g0))) rfl) (aC (et (gS rfl (gS rfl g0)) rfl) aN))) (v_peek hE.vl hE.ok _ _ (by first | exact Nat.mod_lt _ A160_pos | exact hB.self | exact hB.caller | assumption) (by first | exact argN_lt hB _ | exact hB.value | assumption | decide | exact Nat.mod_lt _ (by decide)))) (fun v26 w26 h26 => ?_)
              obtain ⟨rfl, u26⟩ := h26
              replace k4 := k4.up u26
              replace k20 := k20.up u26
              replace k25 := k25.up u26
              replace hE := hE.up u26
              replace U := U.tr u26
              replace V7 := V7.tr u26
              refine ⟨.inr (SU.tr u26), ?_⟩
              replace SU := SU.tr u26
              refine t_step (by exact rfl) (y_moveV (et g0 rfl)) ?_
              refine t_step (by exact rfl) (y_ext (et g0 rfl) rfl) ?_
              refine t_step (by exact rfl) (y_ext (et (gS rfl g0) rfl) rfl) ?_
              refine t_step (by exact rfl) (y_ext (et (gS rfl (gS rfl g0)) rfl) rfl) ?_
              refine t_one ?_
              refine t_effN (by exact rfl) (e_store sz_65 (et (gS rfl (gS rfl (gS rfl (gS rfl (gS rfl (gS rfl g0)))))) rfl) (cellsV (et (gS rfl (gS rfl g0)) rfl) rfl) (by first | (simp only [Value.cells, hV, aV, bV, wV, wL, List.size_toArray, length_bL, length_uL, length_be, size_spl, List.length_cons, List.length_nil, List.length_replicate, Nat.zero_add, Nat.reduceAdd, Nat.reduceLeDiff, Nat.le_refl]; done) | rfl) (by first | exact one_bL _ | exact one_uL _ | (intro v hv; simp at hv; subst hv; rfl)) k20 (by first | (simp only [Value.cells, hV, aV, bV, wV, wL, List.size_toArray, length_bL, length_uL, length_be, size_spl, List.length_cons, List.length_nil, List.length_replicate, Nat.zero_add, Nat.reduceAdd, Nat.reduceLeDiff, Nat.le_refl]; done) | exact Nat.le_of_ble_eq_true rfl | simp | omega)) (fun v27 w27 h27 => ?_)
              obtain ⟨rfl, x27⟩ := h27
              replace k4 := k4.ch x27.ch (by omega)
              replace k25 := k25.ch x27.ch (by omega)
              replace hE := hE.ch x27.ch (by first | omega | (intro b hb; first | (subst hb; exact ⟨hnw _ (by omega), fun hh => by have := hfz.lt hh; omega⟩) | (rcases hb with hb | hb <;> (subst hb; exact ⟨hnw _ (by omega), fun hh => by have := hfz.lt hh; omega⟩))))
              replace k20 := x27.blk.full (by first | (simp only [Value.cells, hV, aV, bV, wV, wL, List.size_toArray, length_bL, length_uL, length_be, size_spl, List.length_cons, List.length_nil, List.length_replicate, Nat.zero_add, Nat.reduceAdd, Nat.reduceLeDiff, Nat.le_refl]; done) | rfl)
              replace U := U.st x27 f20
              replace V7 := V7.st x27 (by omega)
              refine ⟨.inr (SU.st x27 (by omega)), ?_⟩
              replace SU := SU.st x27 (by omega)
              refine t_one ?_
              refine t_effN (by exact rfl) (e_store sz_65 (et (gS rfl (gS rfl (gS rfl (gS rfl (gS rfl g0))))) rfl) (cellsV (et (gS rfl g0) rfl) rfl) (by first | (simp only [Value.cells, hV, aV, bV, wV, wL, List.size_toArray, length_bL, length_uL, length_be, size_spl, List.length_cons, List.length_nil, List.length_replicate, Nat.zero_add, Nat.reduceAdd, Nat.reduceLeDiff, Nat.le_refl]; done) | rfl) (by first | exact one_bL _ | exact one_uL _ | (intro v hv; simp at hv; subst hv; rfl)) k25 (by first | (simp only [Value.cells, hV, aV, bV, wV, wL, List.size_toArray, length_bL, length_uL, length_be, size_spl, List.length_cons, List.length_nil, List.length_replicate, Nat.zero_add, Nat.reduceAdd, Nat.reduceLeDiff, Nat.le_refl]; done) | exact Nat.le_of_ble_eq_true rfl | simp | omega)) (fun v28 w28 h28 => ?_)
              obtain ⟨rfl, x28⟩ := h28
              replace k4 := k4.ch x28.ch (by omega)
              replace k20 := k20.ch x28.ch (by omega)
              replace hE := hE.ch x28.ch (by first | omega | (intro b hb; first | (subst hb; exact ⟨hnw _ (by omega), fun hh => by have := hfz.lt hh; omega⟩) | (rcases hb with hb | hb <;> (subst hb; exact ⟨hnw _ (by omega), fun hh => by have := hfz.lt hh; omega⟩))))
              replace k25 := x28.blk.full (by first | (simp only [Value.cells, hV, aV, bV, wV, wL, List.size_toArray, length_bL, length_uL, length_be, size_spl, List.length_cons, List.length_nil, List.length_replicate, Nat.zero_add, Nat.reduceAdd, Nat.reduceLeDiff, Nat.le_refl]; done) | rfl)
              replace U := U.st x28 f25
              replace V7 := V7.st x28 (by omega)
              refine ⟨.inr (SU.st x28 (by omega)), ?_⟩
              replace SU := SU.st x28 (by omega)
              refine t_step (by exact rfl) (y_assignV (et g0 rfl)) ?_
              refine tl5 0 1 8 9 10 (gS rfl (gS rfl (gS rfl (gS rfl (gS rfl (gS rfl (gS rfl (gS rfl (gS rfl (gS rfl (gS rfl (gS rfl (gS rfl (gS rfl (gS rfl (gS rfl (gS rfl (gS rfl (gS rfl g0))))))))))))))))))) (gS rfl (gS rfl (gS rfl (gS rfl (gS rfl (gS rfl (gS rfl (gS rfl (gS rfl (gS rfl (gS rfl (gS rfl (gS rfl (gS rfl (gS rfl (gS rfl (gS rfl (gS rfl g0)))))))))))))))))) (gS rfl (gS rfl (gS rfl (gS rfl (gS rfl (gS rfl (gS rfl g0))))))) (gS rfl (gS rfl (gS rfl (gS rfl (gS rfl (gS rfl g0)))))) g0 (fun g => ?_)
              exact ⟨g, _, _, rfl, V7, Nat.le_trans hu.size fS20, k20, Nat.le_trans hu.size fS25, k25⟩
          · skip
            refine t_eff (by exact rfl) (e_alloc zr_65) (fun v29 w29 h29 => ?_)
            obtain ⟨b29, rfl, n29⟩ := h29
            have d4_29 : b4 < b29 := Nat.lt_of_lt_of_le k4.lt n29.fresh
            have f29 : w.heap.size ≤ b29 := Nat.le_trans U.size n29.fresh
            have fS29 := Nat.le_trans SU.size n29.fresh
            have fV7_29 := Nat.le_trans V7.size n29.fresh
            replace k4 := k4.up n29.up
            replace hE := hE.up n29.up
            replace U := U.tr n29.up
            replace V7 := V7.tr n29.up
            have k29 := n29.blk
            refine ⟨.inr (SU.tr n29.up), ?_⟩
            replace SU := SU.tr n29.up
            refine t_two ?_ ?_
            · skip
              refine t_eff (by exact rfl) (e_callV cal_304 (aC (et (gS rfl (gS rfl (gS rfl (gS rfl (gS rfl (gS rfl g0)))))) rfl) (aC (et (gS rfl (gS rfl g0)) rfl) (aC (et (gS rfl g0) rfl) aN))) (v_peek hE.vl hE.ok _ _ (by first | exact Nat.mod_lt _ A160_pos | exact hB.self | exact hB.caller | assumption) (by first | exact argN_lt hB _ | exact hB.value | assumption | decide | exact Nat.mod_lt _ (by decide)))) (fun v30 w30 h30 => ?_)
              obtain ⟨rfl, u30⟩ := h30
              replace k4 := k4.up u30
              replace k29 := k29.up u30
              replace hE := hE.up u30
              replace U := U.tr u30
              replace V7 := V7.tr u30
              refine ⟨.inr (SU.tr u30), ?_⟩
              replace SU := SU.tr u30
              refine t_step (by exact rfl) (y_moveV (et g0 rfl)) ?_
              refine t_step (by exact rfl) (y_ext (et g0 rfl) rfl) ?_
              refine t_step (by exact rfl) (y_ext (et (gS rfl g0) rfl) rfl) ?_
              refine t_step (by exact rfl) (y_ext (et (gS rfl (gS rfl g0)) rfl) rfl) ?_
              refine t_one ?_
              refine t_eff (by exact rfl) (e_alloc zr_65) (fun v31 w31 h31 => ?_)
              obtain ⟨b31, rfl, n31⟩ := h31
              have d4_31 : b4 < b31 := Nat.lt_of_lt_of_le k4.lt n31.fresh
              have d29_31 : b29 < b31 := Nat.lt_of_lt_of_le k29.lt n31.fresh
              have f31 : w.heap.size ≤ b31 := Nat.le_trans U.size n31.fresh
              have fS31 := Nat.le_trans SU.size n31.fresh
              have fV7_31 := Nat.le_trans V7.size n31.fresh
              replace k4 := k4.up n31.up
              replace k29 := k29.up n31.up
              replace hE := hE.up n31.up
              replace U := U.tr n31.up
              replace V7 := V7.tr n31.up
              have k31 := n31.blk
              refine ⟨.inr (SU.tr n31.up), ?_⟩
              replace SU := SU.tr n31.up
              refine t_one ?_
              refine t_effN (by exact rfl) (e_store sz_65 (et g0 rfl) (cellsV (et (gS rfl (gS rfl (gS rfl g0))) rfl) rfl) (by first | (simp only [Value.cells, hV, aV, bV, wV, wL, List.size_toArray, length_bL, length_uL, length_be, size_spl, List.length_cons, List.length_nil, List.length_replicate, Nat.zero_add, Nat.reduceAdd, Nat.reduceLeDiff, Nat.le_refl]; done) | rfl) (by first | exact one_bL _ | exact one_uL _ | (intro v hv; simp at hv; subst hv; rfl)) k31 (by first | (simp only [Value.cells, hV, aV, bV, wV, wL, List.size_toArray, length_bL, length_uL, length_be, size_spl, List.length_cons, List.length_nil, List.length_replicate, Nat.zero_add, Nat.reduceAdd, Nat.reduceLeDiff, Nat.le_refl]; done) | exact Nat.le_of_ble_eq_true rfl | simp | omega)) (fun v32 w32 h32 => ?_)
              obtain ⟨rfl, x32⟩ := h32
              replace k4 := k4.ch x32.ch (by omega)
              replace k29 := k29.ch x32.ch (by omega)
              replace hE := hE.ch x32.ch (by first | omega | (intro b hb; first | (subst hb; exact ⟨hnw _ (by omega), fun hh => by have := hfz.lt hh; omega⟩) | (rcases hb with hb | hb <;> (subst hb; exact ⟨hnw _ (by omega), fun hh => by have := hfz.lt hh; omega⟩))))
              replace k31 := x32.blk.full (by first | (simp only [Value.cells, hV, aV, bV, wV, wL, List.size_toArray, length_bL, length_uL, length_be, size_spl, List.length_cons, List.length_nil, List.length_replicate, Nat.zero_add, Nat.reduceAdd, Nat.reduceLeDiff, Nat.le_refl]; done) | rfl)
              replace U := U.st x32 f31
              replace V7 := V7.st x32 (by omega)
              refine ⟨.inr (SU.st x32 (by omega)), ?_⟩
              replace SU := SU.st x32 (by omega)
              refine t_one ?_
              refine t_effN (by exact rfl) (e_store sz_65 (et (gS rfl (gS rfl (gS rfl (gS rfl (gS rfl (gS rfl g0)))))) rfl) (cellsV (et (gS rfl (gS rfl g0)) rfl) rfl) (by first | (simp only [Value.cells, hV, aV, bV, wV, wL, List.size_toArray, length_bL, length_uL, length_be, size_spl, List.length_cons, List.length_nil, List.length_replicate, Nat.zero_add, Nat.reduceAdd, Nat.reduceLeDiff, Nat.le_refl]; done) | rfl) (by first | exact one_bL _ | exact one_uL _ | (intro v hv; simp at hv; subst hv; rfl)) k29 (by first | (simp only [Value.cells, hV, aV, bV, wV, wL, List.size_toArray, length_bL, length_uL, length_be, size_spl, List.length_cons, List.length_nil, List.length_replicate, Nat.zero_add, Nat.reduceAdd, Nat.reduceLeDiff, Nat.le_refl]; done) | exact Nat.le_of_ble_eq_true rfl | simp | omega)) (fun v33 w33 h33 => ?_)
              obtain ⟨rfl, x33⟩ := h33
              replace k4 := k4.ch x33.ch (by omega)
              replace k31 := k31.ch x33.ch (by omega)
              replace hE := hE.ch x33.ch (by first | omega | (intro b hb; first | (subst hb; exact ⟨hnw _ (by omega), fun hh => by have := hfz.lt hh; omega⟩) | (rcases hb with hb | hb <;> (subst hb; exact ⟨hnw _ (by omega), fun hh => by have := hfz.lt hh; omega⟩))))
              replace k29 := x33.blk.full (by first | (simp only [Value.cells, hV, aV, bV, wV, wL, List.size_toArray, length_bL, length_uL, length_be, size_spl, List.length_cons, List.length_nil, List.length_replicate, Nat.zero_add, Nat.reduceAdd, Nat.reduceLeDiff, Nat.le_refl]; done) | rfl)
              replace U := U.st x33 f29
              replace V7 := V7.st x33 (by omega)
              refine ⟨.inr (SU.st x33 (by omega)), ?_⟩
              replace SU := SU.st x33 (by omega)
              refine t_step (by exact rfl) (y_assignV (et (gS rfl g0) rfl)) ?_
              refine tl5 0 1 8 9 10 (gS rfl (gS rfl (gS rfl (gS rfl (gS rfl (gS rfl (gS rfl (gS rfl (gS rfl (gS rfl (gS rfl (gS rfl (gS rfl (gS rfl (gS rfl (gS rfl (gS rfl (gS rfl (gS rfl g0))))))))))))))))))) (gS rfl (gS rfl (gS rfl (gS rfl (gS rfl (gS rfl (gS rfl (gS rfl (gS rfl (gS rfl (gS rfl (gS rfl (gS rfl (gS rfl (gS rfl (gS rfl (gS rfl (gS rfl g0)))))))))))))))))) (gS rfl g0) (gS rfl (gS rfl (gS rfl (gS rfl (gS rfl (gS rfl (gS rfl g0))))))) g0 (fun g => ?_)
              exact ⟨g, _, _, rfl, V7, Nat.le_trans hu.size fS31, k31, Nat.le_trans hu.size fS29, k29⟩
            · skip
              refine t_eff (by exact rfl) (e_alloc zr_65) (fun v34 w34 h34 => ?_)
              obtain ⟨b34, rfl, n34⟩ := h34
              have d4_34 : b4 < b34 := Nat.lt_of_lt_of_le k4.lt n34.fresh
              have d29_34 : b29 < b34 := Nat.lt_of_lt_of_le k29.lt n34.fresh
              have f34 : w.heap.size ≤ b34 := Nat.le_trans U.size n34.fresh
              have fS34 := Nat.le_trans SU.size n34.fresh
              have fV7_34 := Nat.le_trans V7.size n34.fresh
              replace k4 := k4.up n34.up
              replace k29 := k29.up n34.up
              replace hE := hE.up n34.up
              replace U := U.tr n34.up
              replace V7 := V7.tr n34.up
              have k34 := n34.blk
              refine ⟨.inr (SU.tr n34.up), ?_⟩
              replace SU := SU.tr n34.up
              refine t_one ?_
              refine t_eff (by exact rfl) (e_callV cal_304 (aC (et (gS rfl (gS rfl (gS rfl (gS rfl (gS rfl (gS rfl (gS rfl g0))))))) rfl) (aC (et (gS rfl (gS rfl (gS rfl g0))) rfl) (aC (et (gS rfl (gS rfl g0)) rfl) aN))) (v_peek hE.vl hE.ok _ _ (by first | exact Nat.mod_lt _ A160_pos | exact hB.self | exact hB.caller | assumption) (by first | exact argN_lt hB _ | exact hB.value | assumption | decide | exact Nat.mod_lt _ (by decide)))) (fun v35 w35 h35 => ?_)
              obtain ⟨rfl, u35⟩ := h35
              replace k4 := k4.up u35
              replace k29 := k29.up u35
              replace k34 := k34.up u35
              replace hE := hE.up u35
              replace U := U.tr u35
              replace V7 := V7.tr u35
              refine ⟨.inr (SU.tr u35), ?_⟩
              replace SU := SU.tr u35
              refine t_step (by exact rfl) (y_moveV (et g0 rfl)) ?_
              refine t_step (by exact rfl) (y_ext (et g0 rfl) rfl) ?_
              refine t_step (by exact rfl) (y_ext (et (gS rfl g0) rfl) rfl) ?_
              refine t_step (by exact rfl) (y_ext (et (gS rfl (gS rfl g0)) rfl) rfl) ?_
              refine t_one ?_
              refine t_effN (by exact rfl) (e_store sz_65 (et (gS rfl (gS rfl (gS rfl (gS rfl (gS rfl g0))))) rfl) (cellsV (et (gS rfl (gS rfl g0)) rfl) rfl) (by first | (simp only [Value.cells, hV, aV, bV, wV, wL, List.size_toArray, length_bL, length_uL, length_be, size_spl, List.length_cons, List.length_nil, List.length_replicate, Nat.zero_add, Nat.reduceAdd, Nat.reduceLeDiff, Nat.le_refl]; done) | rfl) (by first | exact one_bL _ | exact one_uL _ | (intro v hv; simp at hv; subst hv; rfl)) k34 (by first | (simp only [Value.cells, hV, aV, bV, wV, wL, List.size_toArray, length_bL, length_uL, length_be, size_spl, List.length_cons, List.length_nil, List.length_replicate, Nat.zero_add, Nat.reduceAdd, Nat.reduceLeDiff, Nat.le_refl]; done) | exact Nat.le_of_ble_eq_true rfl | simp | omega)) (fun v36 w36 h36 => ?_)
              obtain ⟨rfl, x36⟩ := h36
              replace k4 := k4.ch x36.ch (by omega)
              replace k29 := k29.ch x36.ch (by omega)
              replace hE := hE.ch x36.ch (by first | omega | (intro b hb; first | (subst hb; exact ⟨hnw _ (by omega), fun hh => by have := hfz.lt hh; omega⟩) | (rcases hb with hb | hb <;> (subst hb; exact ⟨hnw _ (by omega), fun hh => by have := hfz.lt hh; omega⟩))))
              replace k34 := x36.blk.full (by first | (simp only [Value.cells, hV, aV, bV, wV, wL, List.size_toArray, length_bL, length_uL, length_be, size_spl, List.length_cons, List.length_nil, List.length_replicate, Nat.zero_add, Nat.reduceAdd, Nat.reduceLeDiff, Nat.le_refl]; done) | rfl)
              replace U := U.st x36 f34
              replace V7 := V7.st x36 (by omega)
              refine ⟨.inr (SU.st x36 (by omega)), ?_⟩
              replace SU := SU.st x36 (by omega)
              refine t_one ?_
              refine t_effN (by exact rfl) (e_store sz_65 (et (gS rfl (gS rfl (gS rfl (gS rfl (gS rfl (gS rfl g0)))))) rfl) (cellsV (et (gS rfl g0) rfl) rfl) (by first | (simp only [Value.cells, hV, aV, bV, wV, wL, List.size_toArray, length_bL, length_uL, length_be, size_spl, List.length_cons, List.length_nil, List.length_replicate, Nat.zero_add, Nat.reduceAdd, Nat.reduceLeDiff, Nat.le_refl]; done) | rfl) (by first | exact one_bL _ | exact one_uL _ | (intro v hv; simp at hv; subst hv; rfl)) k29 (by first | (simp only [Value.cells, hV, aV, bV, wV, wL, List.size_toArray, length_bL, length_uL, length_be, size_spl, List.length_cons, List.length_nil, List.length_replicate, Nat.zero_add, Nat.reduceAdd, Nat.reduceLeDiff, Nat.le_refl]; done) | exact Nat.le_of_ble_eq_true rfl | simp | omega)) (fun v37 w37 h37 => ?_)
              obtain ⟨rfl, x37⟩ := h37
              replace k4 := k4.ch x37.ch (by omega)
              replace k34 := k34.ch x37.ch (by omega)
              replace hE := hE.ch x37.ch (by first | omega | (intro b hb; first | (subst hb; exact ⟨hnw _ (by omega), fun hh => by have := hfz.lt hh; omega⟩) | (rcases hb with hb | hb <;> (subst hb; exact ⟨hnw _ (by omega), fun hh => by have := hfz.lt hh; omega⟩))))
              replace k29 := x37.blk.full (by first | (simp only [Value.cells, hV, aV, bV, wV, wL, List.size_toArray, length_bL, length_uL, length_be, size_spl, List.length_cons, List.length_nil, List.length_replicate, Nat.zero_add, Nat.reduceAdd, Nat.reduceLeDiff, Nat.le_refl]; done) | rfl)
              replace U := U.st x37 f29
              replace V7 := V7.st x37 (by omega)
              refine ⟨.inr (SU.st x37 (by omega)), ?_⟩
              replace SU := SU.st x37 (by omega)
              refine t_step (by exact rfl) (y_assignV (et g0 rfl)) ?_
              refine tl5 0 1 8 9 10 (gS rfl (gS rfl (gS rfl (gS rfl (gS rfl (gS rfl (gS rfl (gS rfl (gS rfl (gS rfl (gS rfl (gS rfl (gS rfl (gS rfl (gS rfl (gS rfl (gS rfl (gS rfl (gS rfl g0))))))))))))))))))) (gS rfl (gS rfl (gS rfl (gS rfl (gS rfl (gS rfl (gS rfl (gS rfl (gS rfl (gS rfl (gS rfl (gS rfl (gS rfl (gS rfl (gS rfl (gS rfl (gS rfl (gS rfl g0)))))))))))))))))) (gS rfl (gS rfl (gS rfl (gS rfl (gS rfl (gS rfl g0)))))) (gS rfl (gS rfl (gS rfl (gS rfl (gS rfl (gS rfl (gS rfl g0))))))) g0 (fun g => ?_)
              exact ⟨g, _, _, rfl, V7, Nat.le_trans hu.size fS34, k34, Nat.le_trans hu.size fS29, k29⟩
        intro s_ w38 hJ
        obtain ⟨g, b8, b9, rfl, V7, fn8, kn8, fn9, kn9⟩ := hJ
        subst e0 e1 e7
        have d4_8 : b4 < b8 := Nat.lt_of_lt_of_le k4.lt fn8
        have f8 : w.heap.size ≤ b8 := Nat.le_trans U.size fn8
        have d4_9 : b4 < b9 := Nat.lt_of_lt_of_le k4.lt fn9
        have f9 : w.heap.size ≤ b9 := Nat.le_trans U.size fn9
        replace k4 := k4.up V7
        replace hE := hE.up V7
        replace U := U.tr V7
        have k8 := kn8
        have k9 := kn9
        refine hK6 _ _ ?_
        refine c_seq (fun K39 hK39 => ?_)
        exact (by
          refine c_draw Up 14 [(0, true), (1, true), (2, true), (3, true), (5, true), (6, true), (4, false), (7, false), (8, true), (9, true), (10, true), (11, true), (12, true), (13, true)] (by kernel_rfl) (fun w40 hu => ⟨Up.refl _, ?_⟩)
          replace k4 := k4.up hu
          replace k8 := k8.up hu
          replace k9 := k9.up hu
          replace hE := hE.up hu
          replace U := U.tr hu
          have SU := Up.refl w40
          refine p_step (by exact rfl) (y_loadB agg_65 sz_65 (et (gS rfl g0) rfl) rfl (atSB k9)) ?_
          refine p_step (by exact rfl) (y_loadB agg_65 sz_65 (et (gS rfl (gS rfl (gS rfl g0))) rfl) rfl (atSB k8)) ?_
          refine p_step (by exact rfl) (y_moveV (et (gS rfl (gS rfl (gS rfl (gS rfl (gS rfl (gS rfl g0)))))) rfl)) ?_
          refine p_step (by exact rfl) (y_moveV (et (gS rfl (gS rfl (gS rfl (gS rfl (gS rfl (gS rfl g0)))))) rfl)) ?_
          refine p_step (by exact rfl) (y_moveV (et (gS rfl (gS rfl (gS rfl (gS rfl g0)))) rfl)) ?_
          refine p_step (by exact rfl) (y_not (et g0 rfl)) ?_
          refine p_eff (by exact rfl) (e_callV cal_264 (aC (et (gS rfl (gS rfl (gS rfl g0))) rfl) (aC (et (gS rfl (gS rfl g0)) rfl) (aC (v := .int .i64 ((1 : Nat) : Int)) rfl aN))) (m_arg hE hs hp (by first | exact hpf | rfl) _ (by decide))) (fun v41 w41 h41 => ?_)
          obtain ⟨rfl, u41⟩ := h41
          replace k4 := k4.up u41
          replace k8 := k8.up u41
          replace k9 := k9.up u41
          replace hE := hE.up u41
          replace U := U.tr u41
          refine ⟨.inr (SU.tr u41), ?_⟩
          replace SU := SU.tr u41
          refine p_eff (by exact rfl) (e_callV cal_305 (aC (et (gS rfl (gS rfl (gS rfl (gS rfl (gS rfl (gS rfl g0)))))) rfl) (aC (et (gS rfl (gS rfl (gS rfl (gS rfl (gS rfl g0))))) rfl) (aC (et g0 rfl) (aC (et (gS rfl g0) rfl) aN)))) (mach_Sstore _ _ _ _ _ (hE.sxlt _ _).2 (hE.sxlt _ _).1 (by first | exact argN_lt hB _ | exact hB.value | assumption | decide | exact Nat.mod_lt _ (by decide)))) (fun v42 w42 h42 => ?_)
          obtain ⟨rfl, u42⟩ := h42
          replace k4 := k4.up u42
          replace k8 := k8.up u42
          replace k9 := k9.up u42
          replace hE := hE.up u42
          replace U := U.tr u42
          refine ⟨.inr (SU.tr u42), ?_⟩
          replace SU := SU.tr u42
          exact (by
            refine p_step (by exact rfl) (y_ext (et g0 rfl) rfl) ?_
            refine p_step (by exact rfl) (y_ext (et (gS rfl g0) rfl) rfl) ?_
            refine p_step (by exact rfl) (y_ext (et (gS rfl (gS rfl g0)) rfl) rfl) ?_
            refine p_step (by exact rfl) (y_assignV (et (gS rfl (gS rfl g0)) rfl)) ?_
            refine p_step (by exact rfl) (y_assignV (et (gS rfl (gS rfl g0)) rfl)) ?_
            refine p_step (by exact rfl) (y_assignV (et (gS rfl (gS rfl g0)) rfl)) ?_
            refine p_nil ?_
            refine hK39 _ _ ?_
            refine fg3 4 5 6 (gS rfl (gS rfl g0)) (gS rfl g0) g0 (fun g => ?_)
            refine c_ret ?_
            repeat with_reducible refine then_ret ?_
            refine ret3 rfl (res_tmp (et (gS rfl (gS rfl g0)) rfl)) (res_tmp (et (gS rfl g0) rfl)) (res_tmp (et g0 rfl)) ?_
            refine ⟨?_, U⟩
            rw [hE.og, hE.sl]
            rw [show (sx V f.self (argN f.stack 0)).warm = decide ((f.self, argN f.stack 0) ∈ s.now.warmS) from hE.ws _ _]
            rfl)))))
theorem m_good {w : World} {H : Store} {col : Nat → Nat} {bc : Nat} {cs : Array Value} {V : EV} {s : YSt} {sn : List Nat} {sv : List AW} {ms : List (List Nat)} {c : Nat} {low : List YF} {f : YF} (hE : EX w H col bc cs V s sn sv ms c) (hs : s.frames = low ++ [f]) (hp : s.phase = 1) {pf : Nat} (hpf : pf = 1803 + 65 * low.length) (x : Nat) (hx : x < W256) :
    Ret 271 [.pointer (some ⟨bc, pf, none⟩), wV x] w (fun v w' => v = .bool (destN f.code x) ∧ Up w w') := by
  obtain ⟨n9, hn9, hR⟩ := hE.topF hs
  have hB := hE.fbT hs
  have h6 := hE.six hs
  have htop := hE.cTop hs
  have hphs := hE.cPh hp
  have hbp := hB.pc
  have hbs := hB.stk
  have hbg := hB.gas
  have hbc9 := hB.code
  have hnw := hE.vl.new
  have hfz := hE.vl.fz
  have hcC := hE.vl.colC
  have hbc0 := hE.vl.kC.lt
  obtain ⟨ca9, cc9, ia9, ic9, hr5, hcode, hinp⟩ := hR.r5
  obtain ⟨ds9, hr6, hD6⟩ := hR.r6
  refine enter (n := 35) Hvaa.func271 rfl rfl (Nat.le_of_ble_eq_true rfl) ?_
  have U := Up.refl w
  refine c_seq (fun K1 hK1 => ?_)
  exact (by
    refine c_region ?_
    refine l_eff (e_boxV (et (gS rfl g0) rfl)) (fun v2 w2 h2 => ?_)
    obtain ⟨b2, rfl, n2⟩ := h2
    have f2 : w.heap.size ≤ b2 := Nat.le_trans U.size n2.fresh
    replace hE := hE.up n2.up
    replace U := U.tr n2.up
    have k2 := n2.blk
    refine l_step y_assignC ?_
    refine l_nil ?_
    refine hK1 _ _ ?_
    refine fg2 0 3 (gS rfl (gS rfl g0)) (gS rfl g0) (fun g => ?_)
    refine c_seq (fun K3 hK3 => ?_)
    exact (by
      refine c_region ?_
      refine l_step (y_loadB agg_65 sz_65 (et g0 rfl) rfl (at1B k2)) ?_
      refine l_eff (e_callV cal_300 (aC (et g0 rfl) aN) (wU64_lo _ _ (by first | exact argN_lt hB _ | exact hB.value | assumption | decide | exact Nat.mod_lt _ (by decide)))) (fun v4 w4 h4 => ?_)
      obtain ⟨rfl, u4⟩ := h4
      replace k2 := k2.up u4
      replace hE := hE.up u4
      replace U := U.tr u4
      refine l_step (y_moveV (et g0 rfl)) ?_
      refine l_step (y_ext (et g0 rfl) rfl) ?_
      refine l_step (y_ext (et (gS rfl g0) rfl) rfl) ?_
      refine l_step (y_assignV (et (gS rfl g0) rfl)) ?_
      refine l_step (y_assignV (et (gS rfl g0) rfl)) ?_
      refine l_nil ?_
      refine hK3 _ _ ?_
      refine fg3 0 5 6 (gS rfl (gS rfl (gS rfl (gS rfl (gS rfl (gS rfl (gS rfl (gS rfl g0)))))))) (gS rfl g0) g0 (fun g => ?_)
      refine c_seq (fun K5 hK5 => ?_)
      exact (by
        refine c_region ?_
        refine l_step (y_moveV (et g0 rfl)) ?_
        refine l_step (y_moveV (et g0 rfl)) ?_
        refine gsplitL (i := 13) g0 (fun q6 => ?_) (fun q6 => ?_)
        · skip
          have e1 : x < 18446744073709551616 := of_decide_eq_true q6
          have e4 : lo64 x = x := if_pos e1
          refine l_gstep (j := 1) (t := 13) (by exact rfl) (by exact rfl) (et g0 rfl) (by decide) (y_moveV (et (gS rfl (gS rfl (gS rfl (gS rfl g0)))) rfl)) ?_
          refine l_gstep (j := 1) (t := 13) (by exact rfl) (by exact rfl) (et (gS rfl g0) rfl) (by decide) (y_moveV (et (gS rfl (gS rfl (gS rfl (gS rfl (gS rfl (gS rfl g0)))))) rfl)) ?_
          refine l_gstep (j := 1) (t := 13) (by exact rfl) (by exact rfl) (et (gS rfl (gS rfl g0)) rfl) (by decide) (y_nil (et g0 rfl)) ?_
          refine l_gstep (j := 1) (t := 13) (by exact rfl) (by exact rfl) (et (gS rfl (gS rfl (gS rfl g0))) rfl) (by decide) (y_fld fld_71_12 (et g0 rfl)) ?_
          refine l_gstep (j := 1) (t := 13) (by exact rfl) (by exact rfl) (et (gS rfl (gS rfl (gS rfl (gS rfl g0)))) rfl) (by decide) (y_load1 one_38 (et g0 rfl) (at1 (hE.vl.c1 (hr5 0 _ rfl) (by omega)))) ?_
          refine l_gstep (j := 1) (t := 13) (by exact rfl) (by exact rfl) (et (gS rfl (gS rfl (gS rfl (gS rfl (gS rfl g0))))) rfl) (by decide) (y_len Hvaa.underlying38 (et g0 rfl)) ?_
          refine l_gstep (j := 1) (t := 13) (by exact rfl) (by exact rfl) (et (gS rfl (gS rfl (gS rfl (gS rfl (gS rfl (gS rfl g0)))))) rfl) (by decide) (y_conv Hvaa.underlying3 Hvaa.underlying26 (et g0 rfl) (wrapU_id uk64 ?_)) ?_
          omega
          refine l_gstep (j := 1) (t := 13) (by exact rfl) (by exact rfl) (et (gS rfl (gS rfl (gS rfl (gS rfl (gS rfl (gS rfl (gS rfl g0))))))) rfl) (by decide) (y_lss (et (gS rfl (gS rfl (gS rfl (gS rfl (gS rfl (gS rfl g0)))))) rfl) (et g0 rfl)) ?_
          refine l_step (y_pickT (et (gS rfl (gS rfl (gS rfl (gS rfl (gS rfl (gS rfl (gS rfl (gS rfl g0)))))))) rfl) (et g0 rfl)) ?_
          refine l_step (y_moveV (et g0 rfl)) ?_
          refine gsplitL (i := 23) g0 (fun q7 => ?_) (fun q7 => ?_)
          · skip
            have e2 : x < f.code.length := by have := of_decide_eq_true q7; rw [e4] at this; omega
            refine l_gstep (j := 11) (t := 23) (by exact rfl) (by exact rfl) (et g0 rfl) (by decide) (y_moveV (et (gS rfl (gS rfl (gS rfl (gS rfl (gS rfl (gS rfl (gS rfl (gS rfl (gS rfl (gS rfl (gS rfl (gS rfl (gS rfl (gS rfl (gS rfl g0))))))))))))))) rfl)) ?_
            refine l_gstep (j := 11) (t := 23) (by exact rfl) (by exact rfl) (et (gS rfl g0) rfl) (by decide) (y_lss (et g0 rfl) rfl) ?_
            refine l_step (y_pickT (et (gS rfl (gS rfl g0)) rfl) (et g0 rfl)) ?_
            refine l_step (y_moveV (et g0 rfl)) ?_
            refine gsplitL (i := 27) g0 (fun q8 => ?_) (fun q8 => ?_)
            · skip
              have e3 : x < 512 := by have := of_decide_eq_true q8; rw [e4] at this; omega
              rw [e4]
              refine l_gstep (j := 15) (t := 27) (by exact rfl) (by exact rfl) (et g0 rfl) (by decide) (y_moveV (et (gS rfl (gS rfl (gS rfl (gS rfl (gS rfl (gS rfl (gS rfl (gS rfl (gS rfl (gS rfl (gS rfl (gS rfl (gS rfl (gS rfl (gS rfl (gS rfl (gS rfl (gS rfl (gS rfl (gS rfl (gS rfl g0))))))))))))))))))))) rfl)) ?_
              refine l_gstep (j := 15) (t := 27) (by exact rfl) (by exact rfl) (et (gS rfl g0) rfl) (by decide) (y_nil (et g0 rfl)) ?_
              refine l_gstep (j := 15) (t := 27) (by exact rfl) (by exact rfl) (et (gS rfl (gS rfl g0)) rfl) (by decide) (y_fld fld_71_14 (et g0 rfl)) ?_
              refine l_gstep (j := 15) (t := 27) (by exact rfl) (by exact rfl) (et (gS rfl (gS rfl (gS rfl g0))) rfl) (by decide) (y_moveV (et (gS rfl (gS rfl (gS rfl (gS rfl (gS rfl (gS rfl (gS rfl (gS rfl (gS rfl (gS rfl (gS rfl (gS rfl (gS rfl (gS rfl (gS rfl (gS rfl (gS rfl (gS rfl (gS rfl (gS rfl (gS rfl (gS rfl (gS rfl g0))))))))))))))))))))))) rfl)) ?_
              refine l_gstep (j := 15) (t := 27) (by exact rfl) (by exact rfl) (et (gS rfl (gS rfl (gS rfl (gS rfl g0)))) rfl) (by decide) (y_conv Hvaa.underlying26 Hvaa.underlying67 (et g0 rfl) (wrapU_id uk16 ?_)) ?_
              omega
              refine l_geff (j := 15) (t := 27) (by exact rfl) (by exact rfl) (et (gS rfl (gS rfl (gS rfl (gS rfl (gS rfl g0))))) rfl) rfl (e_callV cal_373 (aC (et (gS rfl (gS rfl g0)) rfl) (aC (et g0 rfl) aN)) (m_isDest hE.vl.kC (hr6.at0 (by omega)) hD6 _ (by omega))) (fun v9 w9 h9 => ?_)
              obtain ⟨rfl, u9⟩ := h9
              replace k2 := k2.up u9
              replace hE := hE.up u9
              replace U := U.tr u9
              refine l_step (y_pickT (et (gS rfl (gS rfl (gS rfl (gS rfl (gS rfl (gS rfl g0)))))) rfl) (et g0 rfl)) ?_
              refine l_step (y_assignV (et g0 rfl)) ?_
              refine l_nil ?_
              refine hK5 _ _ ?_
              refine fg1 4 g0 (fun g => ?_)
              refine c_ret ?_
              repeat with_reducible refine then_ret ?_
              refine ret1 rfl (res_tmp (et g0 rfl)) ?_
              exact ⟨by rw [dstB, if_pos e3], U⟩
            · skip
              have e3 : ¬ x < 512 := by have := of_decide_eq_false q8; rw [e4] at this; omega
              refine l_gskip (j := 15) (t := 27) (by exact rfl) (by exact rfl) (et g0 rfl) (by decide) (by decide) ?_
              refine l_gskip (j := 15) (t := 27) (by exact rfl) (by exact rfl) (et (gS rfl g0) rfl) (by decide) (by decide) ?_
              refine l_gskip (j := 15) (t := 27) (by exact rfl) (by exact rfl) (et (gS rfl (gS rfl g0)) rfl) (by decide) (by decide) ?_
              refine l_gskip (j := 15) (t := 27) (by exact rfl) (by exact rfl) (et (gS rfl (gS rfl (gS rfl g0))) rfl) (by decide) (by decide) ?_
              refine l_gskip (j := 15) (t := 27) (by exact rfl) (by exact rfl) (et (gS rfl (gS rfl (gS rfl (gS rfl g0)))) rfl) (by decide) (by decide) ?_
              refine l_gskip (j := 15) (t := 27) (by exact rfl) (by exact rfl) (et (gS rfl (gS rfl (gS rfl (gS rfl (gS rfl g0))))) rfl) (by decide) (by decide) ?_
              refine l_step (y_pickF (et (gS rfl (gS rfl (gS rfl (gS rfl (gS rfl (gS rfl g0)))))) rfl) rfl) ?_
              refine l_step (y_assignV (et g0 rfl)) ?_
              refine l_nil ?_
              refine hK5 _ _ ?_
              refine fg1 4 g0 (fun g => ?_)
              refine c_ret ?_
              repeat with_reducible refine then_ret ?_
              refine ret1 rfl (res_tmp (et g0 rfl)) ?_
              exact absurd (Nat.lt_of_lt_of_le e2 hbc9) e3
          · skip
            have e2 : ¬ x < f.code.length := by have := of_decide_eq_false q7; rw [e4] at this; omega
            refine l_gskip (j := 11) (t := 23) (by exact rfl) (by exact rfl) (et g0 rfl) (by decide) (by decide) ?_
            refine l_gskip (j := 11) (t := 23) (by exact rfl) (by exact rfl) (et (gS rfl g0) rfl) (by decide) (by decide) ?_
            refine l_step (y_pickF (et (gS rfl (gS rfl g0)) rfl) rfl) ?_
            refine l_step (y_moveV (et g0 rfl)) ?_
            refine l_gskip (j := 15) (t := 27) (by exact rfl) (by exact rfl) (et g0 rfl) (by decide) (by decide) ?_
            refine l_gskip (j := 15) (t := 27) (by exact rfl) (by exact rfl) (et (gS rfl g0) rfl) (by decide) (by decide) ?_
            refine l_gskip (j := 15) (t := 27) (by exact rfl) (by exact rfl) (et (gS rfl (gS rfl g0)) rfl) (by decide) (by decide) ?_
            refine l_gskip (j := 15) (t := 27) (by exact rfl) (by exact rfl) (et (gS rfl (gS rfl (gS rfl g0))) rfl) (by decide) (by decide) ?_
            refine l_gskip (j := 15) (t := 27) (by exact rfl) (by exact rfl) (et (gS rfl (gS rfl (gS rfl (gS rfl g0)))) rfl) (by decide) (by decide) ?_
            refine l_gskip (j := 15) (t := 27) (by exact rfl) (by exact rfl) (et (gS rfl (gS rfl (gS rfl (gS rfl (gS rfl g0))))) rfl) (by decide) (by decide) ?_
            refine l_step (y_pickF (et (gS rfl (gS rfl (gS rfl (gS rfl (gS rfl (gS rfl g0)))))) rfl) rfl) ?_
            refine l_step (y_assignV (et g0 rfl)) ?_
            refine l_nil ?_
            refine hK5 _ _ ?_
            refine fg1 4 g0 (fun g => ?_)
            refine c_ret ?_
            repeat with_reducible refine then_ret ?_
            refine ret1 rfl (res_tmp (et g0 rfl)) ?_
            exact ⟨congrArg Value.bool (show false = destN f.code x from (dest_out (by omega)).symm), U⟩
        · skip
          have e1 : ¬ x < 18446744073709551616 := of_decide_eq_false q6
          refine l_gskip (j := 1) (t := 13) (by exact rfl) (by exact rfl) (et g0 rfl) (by decide) (by decide) ?_
          refine l_gskip (j := 1) (t := 13) (by exact rfl) (by exact rfl) (et (gS rfl g0) rfl) (by decide) (by decide) ?_
          refine l_gskip (j := 1) (t := 13) (by exact rfl) (by exact rfl) (et (gS rfl (gS rfl g0)) rfl) (by decide) (by decide) ?_
          refine l_gskip (j := 1) (t := 13) (by exact rfl) (by exact rfl) (et (gS rfl (gS rfl (gS rfl g0))) rfl) (by decide) (by decide) ?_
          refine l_gskip (j := 1) (t := 13) (by exact rfl) (by exact rfl) (et (gS rfl (gS rfl (gS rfl (gS rfl g0)))) rfl) (by decide) (by decide) ?_
          refine l_gskip (j := 1) (t := 13) (by exact rfl) (by exact rfl) (et (gS rfl (gS rfl (gS rfl (gS rfl (gS rfl g0))))) rfl) (by decide) (by decide) ?_
          refine l_gskip (j := 1) (t := 13) (by exact rfl) (by exact rfl) (et (gS rfl (gS rfl (gS rfl (gS rfl (gS rfl (gS rfl g0)))))) rfl) (by decide) (by decide) ?_
          refine l_gskip (j := 1) (t := 13) (by exact rfl) (by exact rfl) (et (gS rfl (gS rfl (gS rfl (gS rfl (gS rfl (gS rfl (gS rfl g0))))))) rfl) (by decide) (by decide) ?_
          refine l_step (y_pickF (et (gS rfl (gS rfl (gS rfl (gS rfl (gS rfl (gS rfl (gS rfl (gS rfl g0)))))))) rfl) rfl) ?_
          refine l_step (y_moveV (et g0 rfl)) ?_
          refine l_gskip (j := 11) (t := 23) (by exact rfl) (by exact rfl) (et g0 rfl) (by decide) (by decide) ?_
          refine l_gskip (j := 11) (t := 23) (by exact rfl) (by exact rfl) (et (gS rfl g0) rfl) (by decide) (by decide) ?_
          refine l_step (y_pickF (et (gS rfl (gS rfl g0)) rfl) rfl) ?_
          refine l_step (y_moveV (et g0 rfl)) ?_
          refine l_gskip (j := 15) (t := 27) (by exact rfl) (by exact rfl) (et g0 rfl) (by decide) (by decide) ?_
          refine l_gskip (j := 15) (t := 27) (by exact rfl) (by exact rfl) (et (gS rfl g0) rfl) (by decide) (by decide) ?_
          refine l_gskip (j := 15) (t := 27) (by exact rfl) (by exact rfl) (et (gS rfl (gS rfl g0)) rfl) (by decide) (by decide) ?_
          refine l_gskip (j := 15) (t := 27) (by exact rfl) (by exact rfl) (et (gS rfl (gS rfl (gS rfl g0))) rfl) (by decide) (by decide) ?_
          refine l_gskip (j := 15) (t := 27) (by exact rfl) (by exact rfl) (et (gS rfl (gS rfl (gS rfl (gS rfl g0)))) rfl) (by decide) (by decide) ?_
          refine l_gskip (j := 15) (t := 27) (by exact rfl) (by exact rfl) (et (gS rfl (gS rfl (gS rfl (gS rfl (gS rfl g0))))) rfl) (by decide) (by decide) ?_
          refine l_step (y_pickF (et (gS rfl (gS rfl (gS rfl (gS rfl (gS rfl (gS rfl g0)))))) rfl) rfl) ?_
          refine l_step (y_assignV (et g0 rfl)) ?_
          refine l_nil ?_
          refine hK5 _ _ ?_
          refine fg1 4 g0 (fun g => ?_)
          refine c_ret ?_
          repeat with_reducible refine then_ret ?_
          refine ret1 rfl (res_tmp (et g0 rfl)) ?_
          exact ⟨congrArg Value.bool (show false = destN f.code x from (dest_out (by omega)).symm), U⟩)))
end Go.Proofs.YgvaawGreat
