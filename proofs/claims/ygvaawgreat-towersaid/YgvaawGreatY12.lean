import Derived.Test.YgvaawGreatY11
set_option maxRecDepth 100000
set_option maxHeartbeats 4000000
set_option linter.unusedSimpArgs false
set_option linter.unusedVariables false
namespace Go.Proofs.YgvaawGreat
open Go
def ltM (a key : Nat) (y : Nat × Nat) : Bool := decide (a < y.1) || (decide (a = y.1) && decide (key < y.2))
def insM (l : List (Nat × Nat)) (a key : Nat) : List (Nat × Nat) := putP (fun _ => false) (ltM a key) (some (a, key)) l
def withM (l : List (Nat × Nat)) (a key : Nat) : List (Nat × Nat) := if (a, key) ∈ l then l else insM l a key
theorem mark_cells {H : Store} {vk : Value} {a k : Nat} (hk : NV H vk k) (h1 : a < A160) (h2 : k < W256) : P_mark H (bL (be 20 a) ++ [vk]) (a, k) := ⟨vk, rfl, hk, h1, h2⟩
theorem set_self {cs : Array Value} {o : Nat} {v : Value} (h : cs[o]? = some v) : cs.setIfInBounds o v = cs := by
  apply Array.ext_getElem?
  intro i
  by_cases hi : o = i
  · subst hi
    rw [Array.getElem?_setIfInBounds_self, h, if_pos (Array.getElem?_eq_some_iff.1 h).1]
  · rw [Array.getElem?_setIfInBounds_ne hi]
theorem yp_warmSlot (bs o sc a : Nat) (sa : Option Addr) (cs : Array Value) (xs : List (Nat × Nat)) (w : World) (H : Store) (hF : Fz w H) (kS : Blk w bs cs) (nbS : ¬ H.has bs) (hva : cs[o + 2]? = some (.slice sa xs.length sc)) (hS0 : LV P_mark 21 H (.slice sa xs.length sc) xs) (ha : a < A160) (hn : xs.length < 2147483648) {vk : Value} {key : Nat} (hK : NV H vk key) (hkb : key < 256 ^ 32) :
    Ret 52 [.pointer (some ⟨bs, o, none⟩), aV a, vk] w (fun v w' => v = .tuple #[] ∧ ∃ v' H', Go (fun k => k = bs) w H w' H' ∧ LV P_mark 21 H' v' (withM xs a key) ∧ Blk w' bs (cs.setIfInBounds (o + 2) v')) := by
  have hF0 := hF
  have lS := kS.lt
  refine enter (n := 67) Hvaa.func52 rfl rfl (Nat.le_of_ble_eq_true rfl) ?_
  have U : Ch (fun k => k = bs) w w := Ch.refl _ w
  refine c_seq (fun K1 hK1 => ?_)
  refine c_region ?_
  refine l_eff (e_boxV (et (gS rfl g0) rfl)) (fun v2 w2 h2 => ?_)
  obtain ⟨b2, rfl, n2⟩ := h2
  have f2 : w.heap.size ≤ b2 := Nat.le_trans U.size n2.fresh
  replace hF := hF.up n2.up
  replace kS := kS.up n2.up
  replace U := U.tr n2.up
  have k2 := n2.blk
  replace k2 : Blk w2 b2 (bL (be 20 a)).toArray := k2
  refine l_nil ?_
  refine hK1 _ _ ?_
  refine fg3 2 0 4 (gS rfl (gS rfl (gS rfl g0))) (gS rfl g0) g0 (fun g => ?_)
  refine c_seq (fun K3 hK3 => ?_)
  refine c_seq (fun K4 hK4 => ?_)
  refine c_region ?_
  refine l_step (y_moveV (et (gS rfl g0) rfl)) ?_
  refine l_step (y_loadB agg_25 sz_25 (et (gS rfl g0) rfl) (by first | (simp only [Value.cells, hV, aV, bV, wV, wL, List.size_toArray, length_bL, length_uL, length_be, size_spl, List.length_cons, List.length_nil, List.length_replicate, Nat.zero_add, Nat.reduceAdd, Nat.reduceLeDiff, Nat.le_refl]; done) | rfl) (at1B k2)) ?_
  refine l_step (y_moveV (et (gS rfl (gS rfl (gS rfl (gS rfl g0)))) rfl)) ?_
  refine l_eff (e_callV cal_129 (aC (et (gS rfl (gS rfl g0)) rfl) (aC (et (gS rfl g0) rfl) (aC (et g0 rfl) aN))) (yp_isWarmSlot bs o sc a sa cs xs _ H hF kS hva hS0 ha (by omega) hK hkb)) (fun v5 w5 h5 => ?_)
  obtain ⟨rfl, u5⟩ := h5
  replace k2 := k2.up u5
  replace hF := hF.up u5
  replace kS := kS.up u5
  replace U := U.tr u5
  refine l_nil ?_
  refine hK4 _ _ ?_
  refine fg4 2 0 4 13 (gS rfl (gS rfl (gS rfl (gS rfl (gS rfl (gS rfl g0)))))) (gS rfl (gS rfl (gS rfl (gS rfl (gS rfl g0))))) (gS rfl (gS rfl (gS rfl (gS rfl g0)))) g0 (fun g => ?_)
  refine c_cond (et g0 rfl) (fun cB1 => ?_) (fun cB1 => ?_)
  · skip
    
    have hin : (a, key) ∈ xs := of_decide_eq_true cB1
    refine c_ret ?_
    refine ret0 rfl ?_
    exact ⟨rfl, _, H, ⟨U, hF, Le.refl _, fun _ h => .inl h⟩, by rw [withM, if_pos hin]; exact hS0, by rw [set_self hva]; exact kS⟩
  · skip
    
    have hin : ¬ (a, key) ∈ xs := of_decide_eq_false cB1
    refine c_skip ?_
    refine hK3 _ _ ?_
    refine fg3 2 0 4 (gS rfl (gS rfl (gS rfl g0))) (gS rfl (gS rfl g0)) (gS rfl g0) (fun g => ?_)
    refine c_seq (fun K7 hK7 => ?_)
    refine c_region ?_
    refine l_step y_assignC ?_
    refine l_nil ?_
    refine hK7 _ _ ?_
    refine c_seq (fun K8 hK8 => ?_)
    refine c_region ?_
    refine l_step y_assignC ?_
    refine l_nil ?_
    refine hK8 _ _ ?_
    refine c_seq (fun K9 hK9 => ?_)
    refine c_seq (fun K10 hK10 => ?_)
    refine c_region ?_
    refine l_step (y_moveV (et (gS rfl (gS rfl (gS rfl g0))) rfl)) ?_
    refine l_step (y_nil (et g0 rfl)) ?_
    refine l_step (y_fld fld_98_2 (et g0 rfl)) ?_
    refine l_step (y_load1 one_94 (et g0 rfl) (at1 (kS.cell hva))) ?_
    refine l_step (y_len Hvaa.underlying94 (et g0 rfl)) ?_
    refine l_step y_moveC ?_
    refine l_nil ?_
    refine hK10 _ _ ?_
    refine fg8 2 0 4 6 7 17 18 19 (gS rfl (gS rfl (gS rfl (gS rfl (gS rfl (gS rfl (gS rfl (gS rfl (gS rfl (gS rfl g0)))))))))) (gS rfl (gS rfl (gS rfl (gS rfl (gS rfl (gS rfl (gS rfl (gS rfl (gS rfl g0))))))))) (gS rfl (gS rfl (gS rfl (gS rfl (gS rfl (gS rfl (gS rfl (gS rfl g0)))))))) (gS rfl (gS rfl (gS rfl (gS rfl (gS rfl (gS rfl (gS rfl g0))))))) (gS rfl (gS rfl (gS rfl (gS rfl (gS rfl (gS rfl g0)))))) (gS rfl (gS rfl g0)) (gS rfl g0) g0 (fun g => ?_)
    refine c_block (fun Q11 hQ11 => ?_)
    refine fg8 0 2 4 6 7 17 18 19 (gS rfl (gS rfl (gS rfl (gS rfl (gS rfl (gS rfl g0)))))) (gS rfl (gS rfl (gS rfl (gS rfl (gS rfl (gS rfl (gS rfl g0))))))) (gS rfl (gS rfl (gS rfl (gS rfl (gS rfl g0))))) (gS rfl (gS rfl (gS rfl (gS rfl g0)))) (gS rfl (gS rfl (gS rfl g0))) (gS rfl (gS rfl g0)) (gS rfl g0) g0 (fun g => ?_)
    obtain ⟨base, hbs⟩ : ∃ base, base = w5.heap.size := ⟨_, rfl⟩
    have hbw : w.heap.size ≤ base := by rw [hbs]; exact U.size
    have hb4 : b2 < base := by rw [hbs]; exact k2.lt
    have hbS : bs < base := by omega
    refine c_loop (fun k_ s_ W12 => ∃ (g : Nat → Value) (ov : Value) (lb : Bool) (O : List (Nat × Nat)) (i : Nat), s_ = (upd (upd (upd (upd (upd (upd (upd (upd g 0 (.pointer (some ⟨bs, o, none⟩))) 2 vk) 4 (.pointer (some ⟨b2, 0, none⟩))) 6 ov) 7 (.bool lb)) 17 (.slice sa xs.length sc)) 18 (.int .i64 (xs.length : Nat))) 19 (.int .i64 (i : Nat))) ∧ xs.length - i = k_ ∧ (i ≤ xs.length) ∧ (GL P_mark H base 232 21 W12.heap.size W12 ov O) ∧ (O.length ≤ i + lb.toNat) ∧ (O ++ putP (fun _ => false) (ltM a key) (if lb then none else some (a, key)) (xs.drop i) = insM xs a key) ∧ Ch (fun k => base ≤ k) w5 W12) (xs.length - (0)) ?_ ?_
    · exact ⟨g, (.slice none 0 0), false, ([] : List (Nat × Nat)), 0, rfl, rfl, Nat.zero_le _, GL.nil, by simp, rfl, Ch.refl _ _⟩
    · skip
      intro k_ s_ W12 hI K12 hK12
      obtain ⟨g, ov, lb, O, i, rfl, rfl, hi, hO, hOl, hfin, V12⟩ := hI
      replace k2 := k2.ch V12 (by omega)
      replace hF := hF.ch V12 (by first | omega | (intro q hq e; have := hF0.lt hq; omega) | (intro q hq e; exact hOo.ne (by have := hF0.lt hq; omega) e) | (intro q hq e; exact nbS (e ▸ hq)))
      replace kS := kS.ch V12 (by first | omega | exact hOo.ne (by omega))
      replace U := U.cc V12 (by intro b hb; first | exact hb.elim | omega | (simp at hb ⊢; omega))
      have hlbn := Bool.toNat_le lb
      have hbW : base ≤ W12.heap.size := by rw [hbs]; exact V12.size
      refine c_seq (fun K13 hK13 => ?_)
      refine c_region ?_
      refine l_step (y_lss (et g0 rfl) (et (gS rfl g0) rfl)) ?_
      refine l_nil ?_
      refine hK13 _ _ ?_
      refine c_seq (fun K14 hK14 => ?_)
      refine c_cond (et g0 rfl) (fun cB2 => ?_) (fun cB2 => ?_)
      · skip
        simp only [decide_eq_true_eq, decide_eq_false_iff_not, Int.not_lt, Int.not_le, Bool.not_eq_true', Bool.not_eq_false', Bool.not_eq_eq_eq_not, Bool.not_true, Bool.not_false] at cB2
        refine c_skip ?_
        refine hK14 _ _ ?_
        refine fg8 0 2 4 6 7 17 18 19 (gS rfl (gS rfl (gS rfl (gS rfl (gS rfl (gS rfl (gS rfl (gS rfl g0)))))))) (gS rfl (gS rfl (gS rfl (gS rfl (gS rfl (gS rfl (gS rfl g0))))))) (gS rfl (gS rfl (gS rfl (gS rfl (gS rfl (gS rfl g0)))))) (gS rfl (gS rfl (gS rfl (gS rfl (gS rfl g0))))) (gS rfl (gS rfl (gS rfl (gS rfl g0)))) (gS rfl (gS rfl (gS rfl g0))) (gS rfl (gS rfl g0)) (gS rfl g0) (fun g => ?_)
        refine c_seq (fun K16 hK16 => ?_)
        refine c_block (fun Q17 hQ17 => ?_)
        refine c_seq (fun K18 hK18 => ?_)
        refine c_region ?_
        obtain ⟨bq, oq, r, ha0, hrow, hrl, vk1, hr1, hk1, hal, hkl⟩ := hS0.row hF (i := i) (by omega)
        rw [hr1] at hrow hrl
        have hP : P_mark H (bL (be 20 xs[i].1) ++ [vk1]) xs[i] := ⟨vk1, rfl, hk1, hal, hkl⟩
        have hPo := one_app (a := xs[i].1) (one_sgl hk1.one1)
        rw [List.drop_eq_getElem_cons (show i < xs.length by omega)] at hfin
        refine l_step (y_idxSa ha0 Hvaa.underlying94 sz_232 (et (gS rfl (gS rfl g0)) rfl) (et g0 rfl) ?_) ?_
        omega
        refine l_step (y_loadR agg_232 sz_232 (et g0 rfl) len21 (at1R hrow)) ?_
        refine l_eff (e_alloc zr_232) (fun v19 w19 h19 => ?_)
        obtain ⟨b19, rfl, n19⟩ := h19
        have d2_19 : b2 < b19 := Nat.lt_of_lt_of_le k2.lt n19.fresh
        have f19 : w.heap.size ≤ b19 := Nat.le_trans U.size n19.fresh
        have fV12_19 := Nat.le_trans V12.size n19.fresh
        replace k2 := k2.up n19.up
        replace hF := hF.up n19.up
        replace kS := kS.up n19.up
        replace hO := hO.up n19.up
        replace U := U.tr n19.up
        replace V12 := V12.tr n19.up
        have k19 := n19.blk
        have hb9 := n19.fresh
        refine l_effN (e_store sz_232 (et g0 rfl) (cellsV (et (gS rfl g0) rfl) rfl) len21 (by exact hPo) k19 (by exact Nat.le_of_ble_eq_true rfl)) (fun v20 w20 h20 => ?_)
        obtain ⟨rfl, x20⟩ := h20
        replace k2 := k2.ch x20.ch (by omega)
        replace hF := hF.ch x20.ch (by first | omega | (first | omega | (intro q hq e; have := hF0.lt hq; omega) | (intro q hq e; exact hOo.ne (by have := hF0.lt hq; omega) e) | (intro q hq e; exact nbS (e ▸ hq))))
        replace kS := kS.ch x20.ch (by first | omega | (first | omega | exact hOo.ne (by omega)))
        replace k19 := x20.blk.full (by rw [len21]; rfl)
        replace hO := hO.wr x20 (by first | omega | (right; omega))
        replace U := U.st x20 (.inr f19)
        replace V12 := V12.st x20 (by omega)
        refine l_nil ?_
        refine hK18 _ _ ?_
        refine fg9 0 2 4 6 7 17 18 19 9 (gS rfl (gS rfl (gS rfl (gS rfl (gS rfl (gS rfl (gS rfl (gS rfl (gS rfl (gS rfl g0)))))))))) (gS rfl (gS rfl (gS rfl (gS rfl (gS rfl (gS rfl (gS rfl (gS rfl (gS rfl g0))))))))) (gS rfl (gS rfl (gS rfl (gS rfl (gS rfl (gS rfl (gS rfl (gS rfl g0)))))))) (gS rfl (gS rfl (gS rfl (gS rfl (gS rfl (gS rfl (gS rfl g0))))))) (gS rfl (gS rfl (gS rfl (gS rfl (gS rfl (gS rfl g0)))))) (gS rfl (gS rfl (gS rfl (gS rfl (gS rfl g0))))) (gS rfl (gS rfl (gS rfl (gS rfl g0)))) (gS rfl (gS rfl (gS rfl g0))) g0 (fun g => ?_)
        refine c_seq (fun K21 hK21 => ?_)
        refine c_seq (fun K22 hK22 => ?_)
        refine c_region ?_
        refine l_step (y_moveV (et (gS rfl (gS rfl (gS rfl (gS rfl g0)))) rfl)) ?_
        refine l_step (y_not (et g0 rfl)) ?_
        refine l_step (y_moveV (et g0 rfl)) ?_
        refine gsplitL (i := 25) g0 (fun q23 => ?_) (fun q23 => ?_)
        · skip
          have hlb : lb = false := by simpa using q23
          refine l_gstep (j := 2) (t := 25) (by exact rfl) (by exact rfl) (et g0 rfl) (by decide) (y_loadB agg_25 sz_25 (et (gS rfl (gS rfl (gS rfl (gS rfl (gS rfl (gS rfl (gS rfl (gS rfl (gS rfl (gS rfl g0)))))))))) rfl) (by first | (simp only [Value.cells, hV, aV, bV, wV, wL, List.size_toArray, length_bL, length_uL, length_be, size_spl, List.length_cons, List.length_nil, List.length_replicate, Nat.zero_add, Nat.reduceAdd, Nat.reduceLeDiff, Nat.le_refl]; done) | rfl) (at1B k2)) ?_
          refine l_gstep (j := 2) (t := 25) (by exact rfl) (by exact rfl) (et (gS rfl g0) rfl) (by decide) (y_fld fld_232_0 (et (gS rfl (gS rfl (gS rfl (gS rfl (gS rfl g0))))) rfl)) ?_
          refine l_gstep (j := 2) (t := 25) (by exact rfl) (by exact rfl) (et (gS rfl (gS rfl g0)) rfl) (by decide) (y_loadR agg_25 sz_25 (et g0 rfl) (by rw [length_bL, length_be]) (at1R (k19.row addr_row))) ?_
          refine l_geff (j := 2) (t := 25) (by exact rfl) (by exact rfl) (et (gS rfl (gS rfl (gS rfl g0))) rfl) rfl (e_callV cal_130 (aC (et (gS rfl (gS rfl g0)) rfl) (aC (et g0 rfl) aN)) (yp_before a xs[i].1 _ ha hal)) (fun v24 w24 h24 => ?_)
          obtain ⟨rfl, u24⟩ := h24
          replace k2 := k2.up u24
          replace k19 := k19.up u24
          replace hF := hF.up u24
          replace kS := kS.up u24
          replace hO := hO.up u24
          replace U := U.tr u24
          replace V12 := V12.tr u24
          refine l_gstep (j := 2) (t := 25) (by exact rfl) (by exact rfl) (et (gS rfl (gS rfl (gS rfl (gS rfl g0)))) rfl) (by decide) (y_moveV (et g0 rfl)) ?_
          refine gsplitL (i := 30) g0 (fun q25 => ?_) (fun q25 => ?_)
          · skip
            have hcd : ltM a key xs[i] = true := by unfold ltM; rw [q25]; rfl
            refine l_gskip (j := 7) (t := 30) (by exact rfl) (by exact rfl) (et g0 rfl) (by decide) (by decide) ?_
            refine l_gskip (j := 7) (t := 30) (by exact rfl) (by exact rfl) (et (gS rfl g0) rfl) (by decide) (by decide) ?_
            refine l_gskip (j := 7) (t := 30) (by exact rfl) (by exact rfl) (et (gS rfl (gS rfl g0)) rfl) (by decide) (by decide) ?_
            refine l_gskip (j := 7) (t := 30) (by exact rfl) (by exact rfl) (et (gS rfl (gS rfl (gS rfl g0))) rfl) (by decide) (by decide) ?_
            refine l_gskip (j := 7) (t := 30) (by exact rfl) (by exact rfl) (et (gS rfl (gS rfl (gS rfl (gS rfl g0)))) rfl) (by decide) (by decide) ?_
            refine l_uskip (j := 12) (t := 35) (by exact rfl) (by exact rfl) (et g0 rfl) rfl ?_
            refine l_uskip (j := 12) (t := 35) (by exact rfl) (by exact rfl) (et (gS rfl g0) rfl) rfl ?_
            refine l_uskip (j := 12) (t := 35) (by exact rfl) (by exact rfl) (et (gS rfl (gS rfl g0)) rfl) rfl ?_
            refine l_uskip (j := 12) (t := 35) (by exact rfl) (by exact rfl) (et (gS rfl (gS rfl (gS rfl g0))) rfl) rfl ?_
            refine l_uskip (j := 12) (t := 35) (by exact rfl) (by exact rfl) (et (gS rfl (gS rfl (gS rfl (gS rfl g0)))) rfl) rfl ?_
            refine l_gskip (j := 7) (t := 30) (by exact rfl) (by exact rfl) (et (gS rfl (gS rfl (gS rfl (gS rfl (gS rfl (gS rfl (gS rfl (gS rfl (gS rfl (gS rfl g0)))))))))) rfl) (by decide) (by decide) ?_
            refine l_gstep (j := 2) (t := 25) (by exact rfl) (by exact rfl) (et (gS rfl (gS rfl (gS rfl (gS rfl (gS rfl (gS rfl (gS rfl (gS rfl (gS rfl (gS rfl (gS rfl (gS rfl (gS rfl (gS rfl (gS rfl (gS rfl (gS rfl g0))))))))))))))))) rfl) (by decide) (y_pickT (et (gS rfl (gS rfl (gS rfl (gS rfl (gS rfl (gS rfl (gS rfl (gS rfl (gS rfl (gS rfl (gS rfl g0))))))))))) rfl) rfl) ?_
            refine l_step (y_pickT (et (gS rfl (gS rfl (gS rfl (gS rfl (gS rfl (gS rfl (gS rfl (gS rfl (gS rfl (gS rfl (gS rfl (gS rfl (gS rfl (gS rfl (gS rfl (gS rfl (gS rfl (gS rfl g0)))))))))))))))))) rfl) (et g0 rfl)) ?_
            refine l_nil ?_
            refine hK22 _ _ ?_
            refine fg10 0 2 4 6 7 17 18 19 9 43 (gS rfl (gS rfl (gS rfl (gS rfl (gS rfl (gS rfl (gS rfl (gS rfl (gS rfl (gS rfl (gS rfl (gS rfl (gS rfl (gS rfl (gS rfl (gS rfl (gS rfl (gS rfl (gS rfl (gS rfl (gS rfl (gS rfl (gS rfl (gS rfl (gS rfl (gS rfl (gS rfl (gS rfl (gS rfl (gS rfl (gS rfl g0))))))))))))))))))))))))))))))) (gS rfl (gS rfl (gS rfl (gS rfl (gS rfl (gS rfl (gS rfl (gS rfl (gS rfl (gS rfl (gS rfl (gS rfl (gS rfl (gS rfl (gS rfl (gS rfl (gS rfl (gS rfl (gS rfl (gS rfl (gS rfl (gS rfl (gS rfl (gS rfl (gS rfl (gS rfl (gS rfl (gS rfl (gS rfl (gS rfl g0)))))))))))))))))))))))))))))) (gS rfl (gS rfl (gS rfl (gS rfl (gS rfl (gS rfl (gS rfl (gS rfl (gS rfl (gS rfl (gS rfl (gS rfl (gS rfl (gS rfl (gS rfl (gS rfl (gS rfl (gS rfl (gS rfl (gS rfl (gS rfl (gS rfl (gS rfl (gS rfl (gS rfl (gS rfl (gS rfl (gS rfl (gS rfl g0))))))))))))))))))))))))))))) (gS rfl (gS rfl (gS rfl (gS rfl (gS rfl (gS rfl (gS rfl (gS rfl (gS rfl (gS rfl (gS rfl (gS rfl (gS rfl (gS rfl (gS rfl (gS rfl (gS rfl (gS rfl (gS rfl (gS rfl (gS rfl (gS rfl (gS rfl (gS rfl (gS rfl (gS rfl (gS rfl (gS rfl g0)))))))))))))))))))))))))))) (gS rfl (gS rfl (gS rfl (gS rfl (gS rfl (gS rfl (gS rfl (gS rfl (gS rfl (gS rfl (gS rfl (gS rfl (gS rfl (gS rfl (gS rfl (gS rfl (gS rfl (gS rfl (gS rfl (gS rfl (gS rfl (gS rfl (gS rfl (gS rfl (gS rfl (gS rfl (gS rfl g0))))))))))))))))))))))))))) (gS rfl (gS rfl (gS rfl (gS rfl (gS rfl (gS rfl (gS rfl (gS rfl (gS rfl (gS rfl (gS rfl (gS rfl (gS rfl (gS rfl (gS rfl (gS rfl (gS rfl (gS rfl (gS rfl (gS rfl (gS rfl (gS rfl (gS rfl (gS rfl (gS rfl (gS rfl g0)))))))))))))))))))))))))) (gS rfl (gS rfl (gS rfl (gS rfl (gS rfl (gS rfl (gS rfl (gS rfl (gS rfl (gS rfl (gS rfl (gS rfl (gS rfl (gS rfl (gS rfl (gS rfl (gS rfl (gS rfl (gS rfl (gS rfl (gS rfl (gS rfl (gS rfl (gS rfl (gS rfl g0))))))))))))))))))))))))) (gS rfl (gS rfl (gS rfl (gS rfl (gS rfl (gS rfl (gS rfl (gS rfl (gS rfl (gS rfl (gS rfl (gS rfl (gS rfl (gS rfl (gS rfl (gS rfl (gS rfl (gS rfl (gS rfl (gS rfl (gS rfl (gS rfl (gS rfl (gS rfl g0)))))))))))))))))))))))) (gS rfl (gS rfl (gS rfl (gS rfl (gS rfl (gS rfl (gS rfl (gS rfl (gS rfl (gS rfl (gS rfl (gS rfl (gS rfl (gS rfl (gS rfl (gS rfl (gS rfl (gS rfl (gS rfl (gS rfl (gS rfl (gS rfl (gS rfl g0))))))))))))))))))))))) g0 (fun g => ?_)
            refine c_true (et g0 rfl) rfl ?_
            refine c_seq (fun K27 hK27 => ?_)
            refine c_region ?_
            refine l_step (y_moveV (et (gS rfl (gS rfl (gS rfl (gS rfl (gS rfl (gS rfl g0)))))) rfl)) ?_
            refine l_step (y_loadB agg_25 sz_25 (et (gS rfl (gS rfl (gS rfl (gS rfl (gS rfl (gS rfl (gS rfl (gS rfl g0)))))))) rfl) (by first | (simp only [Value.cells, hV, aV, bV, wV, wL, List.size_toArray, length_bL, length_uL, length_be, size_spl, List.length_cons, List.length_nil, List.length_replicate, Nat.zero_add, Nat.reduceAdd, Nat.reduceLeDiff, Nat.le_refl]; done) | rfl) (at1B k2)) ?_
            refine l_step (y_moveV (et (gS rfl (gS rfl (gS rfl (gS rfl (gS rfl (gS rfl (gS rfl (gS rfl (gS rfl (gS rfl g0)))))))))) rfl)) ?_
            have hb28 : ∀ w, (Instr.build 232 ([(0, (Value.agg (bL (be 20 a)).toArray)), (1, vk)] : List (Nat × Value)).toArray).run Hvaa.prog w = .ok (.agg ([(bL (be 20 a)), ([vk])] : List (List Value)).flatten.toArray) w := bld_run zr_232 plc_232 (fill_flat (off := 0) (k := 20) (f := (List.replicate 20 (.int .u8 0))) (c := bL (be 20 a)) (v := (Value.agg (bL (be 20 a)).toArray)) rfl rfl (by first | (simp [length_bL, length_be, length_uL]; done) | rfl) (by first | rfl | (simp [length_bL, length_be, length_uL]; done)) rfl (by first | (simp [length_bL, length_be, length_uL]; done) | rfl) (fill_flat (off := 20) (k := 1) (f := [.slice none 0 0]) (c := [vk]) (v := vk) rfl (cells_one hK.one1) (by first | (simp [length_bL, length_be, length_uL]; done) | rfl) (by first | (simp [length_bL, length_be, length_uL]; done) | rfl) rfl (by first | (simp [length_bL, length_be, length_uL]; done) | rfl) (fill_nil _ _)))
            refine l_step ((y_bld (bC (et (gS rfl g0) rfl) (bC (et g0 rfl) bN)) hb28).to (congrArg (fun l : List Value => Value.agg l.toArray) (show _ = bL (be 20 a) ++ [vk] by simp))) ?_
            refine l_eff (e_slice1 Hvaa.underlying94 sz_232 zr_232 rfl (by decide) (et g0 rfl) (by rw [show (Value.agg ((bL (be 20 a) ++ [vk])).toArray).cells = ((bL (be 20 a) ++ [vk])).toArray from rfl, List.size_toArray, len21])) (fun v29 w29 h29 => ?_)
            obtain ⟨b29, rfl, n29⟩ := h29
            replace k2 := k2.up n29.up
            replace k19 := k19.up n29.up
            replace hF := hF.up n29.up
            replace kS := kS.up n29.up
            replace hO := hO.up n29.up
            replace U := U.tr n29.up
            replace V12 := V12.tr n29.up
            have kq29 : Blk w29 b29 ((bL (be 20 a) ++ [vk])).toArray := n29.blk
            have hbz : base ≤ w29.heap.size := by have := k19.lt; omega
            refine l_eff (e_appL Hvaa.underlying94 sz_232 zr_232 by_232 rfl (by decide) (et (gS rfl (gS rfl (gS rfl (gS rfl g0)))) rfl) hO (et g0 rfl) len21 kq29 (one_app (one_sgl hK.one1)) (mark_cells hK ha (W_bd hkb)) (by decide) (by first | omega | (simp; omega)) hbz) (fun v30 w30 h30 => ?_)
            obtain ⟨hO30, c30, hown30⟩ := h30
            have hOo := hO
            have nO9 := hown30 _ k19.lt (hO.ne (by omega))
            replace k2 := k2.ch c30 (by first | omega | exact hOo.ne (by omega) | assumption | (intro q hq; exact hOo.ne (by have := hF0.lt hq; omega)))
            replace k19 := k19.ch c30 (by first | omega | exact hOo.ne (by omega) | assumption | (intro q hq; exact hOo.ne (by have := hF0.lt hq; omega)))
            replace hF := hF.ch c30 (by first | omega | (intro q hq e; have := hF0.lt hq; omega) | (intro q hq e; exact hOo.ne (by have := hF0.lt hq; omega) e) | (intro q hq e; exact nbS (e ▸ hq)))
            replace kS := kS.ch c30 (by first | omega | exact hOo.ne (by omega))
            replace hO := hO30
            replace V12 := V12.cc c30 (by intro b hb; first | omega | (simp at hb ⊢; omega) | (have := hOo.lim b hb.symm; omega))
            replace U := U.cc c30 (by intro b hb; first | (have := hOo.lim b hb.symm; omega) | omega | exact .inl hb | exact .inr (hb ▸ U))
            refine l_step (y_assignV (et g0 rfl)) ?_
            refine l_nil ?_
            refine hK27 _ _ ?_
            refine fg8 0 2 4 6 17 18 19 9 (gS rfl (gS rfl (gS rfl (gS rfl (gS rfl (gS rfl (gS rfl (gS rfl (gS rfl (gS rfl (gS rfl (gS rfl (gS rfl (gS rfl (gS rfl (gS rfl g0)))))))))))))))) (gS rfl (gS rfl (gS rfl (gS rfl (gS rfl (gS rfl (gS rfl (gS rfl (gS rfl (gS rfl (gS rfl (gS rfl (gS rfl (gS rfl (gS rfl g0))))))))))))))) (gS rfl (gS rfl (gS rfl (gS rfl (gS rfl (gS rfl (gS rfl (gS rfl (gS rfl (gS rfl (gS rfl (gS rfl (gS rfl (gS rfl g0)))))))))))))) g0 (gS rfl (gS rfl (gS rfl (gS rfl (gS rfl (gS rfl (gS rfl (gS rfl (gS rfl (gS rfl (gS rfl g0))))))))))) (gS rfl (gS rfl (gS rfl (gS rfl (gS rfl (gS rfl (gS rfl (gS rfl (gS rfl (gS rfl g0)))))))))) (gS rfl (gS rfl (gS rfl (gS rfl (gS rfl (gS rfl (gS rfl (gS rfl (gS rfl g0))))))))) (gS rfl (gS rfl (gS rfl (gS rfl (gS rfl (gS rfl (gS rfl (gS rfl g0)))))))) (fun g => ?_)
            refine c_region ?_
            refine l_step y_assignC ?_
            refine l_nil ?_
            refine hK21 _ _ ?_
            refine c_region ?_
            refine l_step (y_moveV (et (gS rfl (gS rfl (gS rfl (gS rfl (gS rfl g0))))) rfl)) ?_
            refine l_step (y_loadB agg_232 sz_232 (et (gS rfl (gS rfl g0)) rfl) (by rw [List.size_toArray, len21]) (at1B k19)) ?_
            refine l_eff (e_slice1 Hvaa.underlying94 sz_232 zr_232 rfl (by decide) (et g0 rfl) (by rw [show (Value.agg ((bL (be 20 xs[i].1) ++ [vk1])).toArray).cells = ((bL (be 20 xs[i].1) ++ [vk1])).toArray from rfl, List.size_toArray, len21])) (fun v31 w31 h31 => ?_)
            obtain ⟨b31, rfl, n31⟩ := h31
            replace k2 := k2.up n31.up
            replace k19 := k19.up n31.up
            replace hF := hF.up n31.up
            replace kS := kS.up n31.up
            replace hO := hO.up n31.up
            replace U := U.tr n31.up
            replace V12 := V12.tr n31.up
            have kq31 : Blk w31 b31 ((bL (be 20 xs[i].1) ++ [vk1])).toArray := n31.blk
            have hbz : base ≤ w31.heap.size := by have := k19.lt; omega
            refine l_eff (e_appL Hvaa.underlying94 sz_232 zr_232 by_232 rfl (by decide) (et (gS rfl (gS rfl g0)) rfl) hO (et g0 rfl) len21 kq31 hPo hP (by decide) (by first | omega | (simp; omega)) hbz) (fun v32 w32 h32 => ?_)
            obtain ⟨hO32, c32, hown32⟩ := h32
            have hOo := hO
            replace k2 := k2.ch c32 (by first | omega | exact hOo.ne (by omega) | assumption | (intro q hq; exact hOo.ne (by have := hF0.lt hq; omega)))
            replace k19 := k19.ch c32 (by first | omega | exact hOo.ne (by omega) | assumption | (intro q hq; exact hOo.ne (by have := hF0.lt hq; omega)))
            replace hF := hF.ch c32 (by first | omega | (intro q hq e; have := hF0.lt hq; omega) | (intro q hq e; exact hOo.ne (by have := hF0.lt hq; omega) e) | (intro q hq e; exact nbS (e ▸ hq)))
            replace kS := kS.ch c32 (by first | omega | exact hOo.ne (by omega))
            replace hO := hO32
            replace V12 := V12.cc c32 (by intro b hb; first | omega | (simp at hb ⊢; omega) | (have := hOo.lim b hb.symm; omega))
            replace U := U.cc c32 (by intro b hb; first | (have := hOo.lim b hb.symm; omega) | omega | exact .inl hb | exact .inr (hb ▸ U))
            refine l_step (y_assignV (et g0 rfl)) ?_
            refine l_nil ?_
            refine hQ17 _ _ _ (in_normal ?_)
            refine hK16 _ _ ?_
            refine fg8 0 2 4 6 17 18 19 7 (gS rfl (gS rfl (gS rfl (gS rfl (gS rfl (gS rfl (gS rfl (gS rfl (gS rfl (gS rfl (gS rfl (gS rfl (gS rfl g0))))))))))))) (gS rfl (gS rfl (gS rfl (gS rfl (gS rfl (gS rfl (gS rfl (gS rfl (gS rfl (gS rfl (gS rfl (gS rfl g0)))))))))))) (gS rfl (gS rfl (gS rfl (gS rfl (gS rfl (gS rfl (gS rfl (gS rfl (gS rfl (gS rfl (gS rfl g0))))))))))) g0 (gS rfl (gS rfl (gS rfl (gS rfl (gS rfl (gS rfl (gS rfl (gS rfl (gS rfl g0))))))))) (gS rfl (gS rfl (gS rfl (gS rfl (gS rfl (gS rfl (gS rfl (gS rfl g0)))))))) (gS rfl (gS rfl (gS rfl (gS rfl (gS rfl (gS rfl (gS rfl g0))))))) (gS rfl (gS rfl (gS rfl (gS rfl (gS rfl g0))))) (fun g => ?_)
            refine c_region ?_
            refine l_step (y_add (et (gS rfl g0) rfl) rfl (addIN (y := 1) ?_)) ?_
            omega
            refine l_step (y_moveV (et g0 rfl)) ?_
            refine l_nil ?_
            refine fK8 0 2 4 6 7 17 18 19 (gS rfl (gS rfl (gS rfl (gS rfl (gS rfl (gS rfl (gS rfl (gS rfl (gS rfl g0))))))))) (gS rfl (gS rfl (gS rfl (gS rfl (gS rfl (gS rfl (gS rfl (gS rfl g0)))))))) (gS rfl (gS rfl (gS rfl (gS rfl (gS rfl (gS rfl (gS rfl g0))))))) (gS rfl (gS rfl (gS rfl (gS rfl (gS rfl (gS rfl g0)))))) (gS rfl (gS rfl g0)) (gS rfl (gS rfl (gS rfl (gS rfl (gS rfl g0))))) (gS rfl (gS rfl (gS rfl (gS rfl g0)))) g0 (fun g => ?_)
            exact hK12 (xs.length - ((i + 1))) _ _ (by omega) ⟨g, _, true, (O ++ [(a, key)] ++ [xs[i]]), (i + 1), rfl, rfl, by omega, hO, by rw [hlb] at hOl; simp at hOl ⊢; omega, put_keep (put_lay (by rw [hlb] at hfin; exact hfin) (by simpa using hcd)) rfl, V12⟩
          · skip
            have h30 := q25
            refine l_gstep (j := 7) (t := 30) (by exact rfl) (by exact rfl) (et g0 rfl) (by decide) (y_loadB agg_25 sz_25 (et (gS rfl (gS rfl (gS rfl (gS rfl (gS rfl (gS rfl (gS rfl (gS rfl (gS rfl (gS rfl (gS rfl (gS rfl (gS rfl (gS rfl (gS rfl (gS rfl g0)))))))))))))))) rfl) (by first | (simp only [Value.cells, hV, aV, bV, wV, wL, List.size_toArray, length_bL, length_uL, length_be, size_spl, List.length_cons, List.length_nil, List.length_replicate, Nat.zero_add, Nat.reduceAdd, Nat.reduceLeDiff, Nat.le_refl]; done) | rfl) (at1B k2)) ?_
            refine l_gstep (j := 7) (t := 30) (by exact rfl) (by exact rfl) (et (gS rfl g0) rfl) (by decide) (y_fld fld_232_0 (et (gS rfl (gS rfl (gS rfl (gS rfl (gS rfl (gS rfl (gS rfl (gS rfl (gS rfl (gS rfl (gS rfl g0))))))))))) rfl)) ?_
            refine l_gstep (j := 7) (t := 30) (by exact rfl) (by exact rfl) (et (gS rfl (gS rfl g0)) rfl) (by decide) (y_loadR agg_25 sz_25 (et g0 rfl) (by rw [length_bL, length_be]) (at1R (k19.row addr_row))) ?_
            refine l_gstep (j := 7) (t := 30) (by exact rfl) (by exact rfl) (et (gS rfl (gS rfl (gS rfl g0))) rfl) (by decide) (y_eqlAddr ha hal (et (gS rfl (gS rfl g0)) rfl) (et g0 rfl)) ?_
            refine l_gstep (j := 7) (t := 30) (by exact rfl) (by exact rfl) (et (gS rfl (gS rfl (gS rfl (gS rfl g0)))) rfl) (by decide) (y_moveV (et g0 rfl)) ?_
            refine gsplitL (i := 35) g0 (fun q33 => ?_) (fun q33 => ?_)
            · skip
              have h35 := q33
              refine l_gstep (j := 12) (t := 35) (by exact rfl) (by exact rfl) (et g0 rfl) (by decide) (y_moveV (et (gS rfl (gS rfl (gS rfl (gS rfl (gS rfl (gS rfl (gS rfl (gS rfl (gS rfl (gS rfl (gS rfl (gS rfl (gS rfl (gS rfl (gS rfl (gS rfl (gS rfl (gS rfl (gS rfl (gS rfl (gS rfl (gS rfl (gS rfl g0))))))))))))))))))))))) rfl)) ?_
              refine l_gstep (j := 12) (t := 35) (by exact rfl) (by exact rfl) (et (gS rfl g0) rfl) (by decide) (y_fld fld_232_1 (et (gS rfl (gS rfl (gS rfl (gS rfl (gS rfl (gS rfl (gS rfl (gS rfl (gS rfl (gS rfl (gS rfl (gS rfl (gS rfl (gS rfl (gS rfl (gS rfl (gS rfl g0))))))))))))))))) rfl)) ?_
              refine l_gstep (j := 12) (t := 35) (by exact rfl) (by exact rfl) (et (gS rfl (gS rfl g0)) rfl) (by decide) (y_load1 one_95 (et g0 rfl) (at1 (k19.cell ((app20 (i := 0) rfl).trans rfl)))) ?_
              refine l_geff (j := 12) (t := 35) (by exact rfl) (by exact rfl) (et (gS rfl (gS rfl (gS rfl g0))) rfl) rfl (e_callV cal_121 (aC (et (gS rfl (gS rfl g0)) rfl) (aC (et g0 rfl) aN)) (nat_cmp hF hK hk1 (bd_sm hkb (by decide)) (smW hkl))) (fun v34 w34 h34 => ?_)
              obtain ⟨rfl, u34⟩ := h34
              replace k2 := k2.up u34
              replace k19 := k19.up u34
              replace hF := hF.up u34
              replace kS := kS.up u34
              replace hO := hO.up u34
              replace U := U.tr u34
              replace V12 := V12.tr u34
              refine l_gstep (j := 12) (t := 35) (by exact rfl) (by exact rfl) (et (gS rfl (gS rfl (gS rfl (gS rfl g0)))) rfl) (by decide) ((y_lss (et g0 rfl) rfl).to (congrArg Value.bool (cmp_lt0 key xs[i].2))) ?_
              refine l_gstep (j := 7) (t := 30) (by exact rfl) (by exact rfl) (et (gS rfl (gS rfl (gS rfl (gS rfl (gS rfl (gS rfl (gS rfl (gS rfl (gS rfl (gS rfl (gS rfl g0))))))))))) rfl) (by decide) (y_pickT (et (gS rfl (gS rfl (gS rfl (gS rfl (gS rfl g0))))) rfl) (et g0 rfl)) ?_
              refine l_gstep (j := 2) (t := 25) (by exact rfl) (by exact rfl) (et (gS rfl (gS rfl (gS rfl (gS rfl (gS rfl (gS rfl (gS rfl (gS rfl (gS rfl (gS rfl (gS rfl (gS rfl (gS rfl (gS rfl (gS rfl (gS rfl (gS rfl (gS rfl g0)))))))))))))))))) rfl) (by decide) (y_pickF (et (gS rfl (gS rfl (gS rfl (gS rfl (gS rfl (gS rfl (gS rfl (gS rfl (gS rfl (gS rfl (gS rfl (gS rfl g0)))))))))))) rfl) (et g0 rfl)) ?_
              refine l_step (y_pickT (et (gS rfl (gS rfl (gS rfl (gS rfl (gS rfl (gS rfl (gS rfl (gS rfl (gS rfl (gS rfl (gS rfl (gS rfl (gS rfl (gS rfl (gS rfl (gS rfl (gS rfl (gS rfl (gS rfl g0))))))))))))))))))) rfl) (et g0 rfl)) ?_
              refine l_nil ?_
              refine hK22 _ _ ?_
              refine fg10 0 2 4 6 7 17 18 19 9 43 (gS rfl (gS rfl (gS rfl (gS rfl (gS rfl (gS rfl (gS rfl (gS rfl (gS rfl (gS rfl (gS rfl (gS rfl (gS rfl (gS rfl (gS rfl (gS rfl (gS rfl (gS rfl (gS rfl (gS rfl (gS rfl (gS rfl (gS rfl (gS rfl (gS rfl (gS rfl (gS rfl (gS rfl (gS rfl (gS rfl (gS rfl (gS rfl g0)))))))))))))))))))))))))))))))) (gS rfl (gS rfl (gS rfl (gS rfl (gS rfl (gS rfl (gS rfl (gS rfl (gS rfl (gS rfl (gS rfl (gS rfl (gS rfl (gS rfl (gS rfl (gS rfl (gS rfl (gS rfl (gS rfl (gS rfl (gS rfl (gS rfl (gS rfl (gS rfl (gS rfl (gS rfl (gS rfl (gS rfl (gS rfl (gS rfl (gS rfl g0))))))))))))))))))))))))))))))) (gS rfl (gS rfl (gS rfl (gS rfl (gS rfl (gS rfl (gS rfl (gS rfl (gS rfl (gS rfl (gS rfl (gS rfl (gS rfl (gS rfl (gS rfl (gS rfl (gS rfl (gS rfl (gS rfl (gS rfl (gS rfl (gS rfl (gS rfl (gS rfl (gS rfl (gS rfl (gS rfl (gS rfl (gS rfl (gS rfl g0)))))))))))))))))))))))))))))) (gS rfl (gS rfl (gS rfl (gS rfl (gS rfl (gS rfl (gS rfl (gS rfl (gS rfl (gS rfl (gS rfl (gS rfl (gS rfl (gS rfl (gS rfl (gS rfl (gS rfl (gS rfl (gS rfl (gS rfl (gS rfl (gS rfl (gS rfl (gS rfl (gS rfl (gS rfl (gS rfl (gS rfl (gS rfl g0))))))))))))))))))))))))))))) (gS rfl (gS rfl (gS rfl (gS rfl (gS rfl (gS rfl (gS rfl (gS rfl (gS rfl (gS rfl (gS rfl (gS rfl (gS rfl (gS rfl (gS rfl (gS rfl (gS rfl (gS rfl (gS rfl (gS rfl (gS rfl (gS rfl (gS rfl (gS rfl (gS rfl (gS rfl (gS rfl (gS rfl g0)))))))))))))))))))))))))))) (gS rfl (gS rfl (gS rfl (gS rfl (gS rfl (gS rfl (gS rfl (gS rfl (gS rfl (gS rfl (gS rfl (gS rfl (gS rfl (gS rfl (gS rfl (gS rfl (gS rfl (gS rfl (gS rfl (gS rfl (gS rfl (gS rfl (gS rfl (gS rfl (gS rfl (gS rfl (gS rfl g0))))))))))))))))))))))))))) (gS rfl (gS rfl (gS rfl (gS rfl (gS rfl (gS rfl (gS rfl (gS rfl (gS rfl (gS rfl (gS rfl (gS rfl (gS rfl (gS rfl (gS rfl (gS rfl (gS rfl (gS rfl (gS rfl (gS rfl (gS rfl (gS rfl (gS rfl (gS rfl (gS rfl (gS rfl g0)))))))))))))))))))))))))) (gS rfl (gS rfl (gS rfl (gS rfl (gS rfl (gS rfl (gS rfl (gS rfl (gS rfl (gS rfl (gS rfl (gS rfl (gS rfl (gS rfl (gS rfl (gS rfl (gS rfl (gS rfl (gS rfl (gS rfl (gS rfl (gS rfl (gS rfl (gS rfl (gS rfl g0))))))))))))))))))))))))) (gS rfl (gS rfl (gS rfl (gS rfl (gS rfl (gS rfl (gS rfl (gS rfl (gS rfl (gS rfl (gS rfl (gS rfl (gS rfl (gS rfl (gS rfl (gS rfl (gS rfl (gS rfl (gS rfl (gS rfl (gS rfl (gS rfl (gS rfl (gS rfl g0)))))))))))))))))))))))) g0 (fun g => ?_)
              refine c_cond (et g0 rfl) (fun cB3 => ?_) (fun cB3 => ?_)
              · skip
                
                have hcd : ltM a key xs[i] = true := by unfold ltM; rw [h30, h35, cB3]; rfl
                refine c_seq (fun K36 hK36 => ?_)
                refine c_region ?_
                refine l_step (y_moveV (et (gS rfl (gS rfl (gS rfl (gS rfl (gS rfl (gS rfl g0)))))) rfl)) ?_
                refine l_step (y_loadB agg_25 sz_25 (et (gS rfl (gS rfl (gS rfl (gS rfl (gS rfl (gS rfl (gS rfl (gS rfl g0)))))))) rfl) (by first | (simp only [Value.cells, hV, aV, bV, wV, wL, List.size_toArray, length_bL, length_uL, length_be, size_spl, List.length_cons, List.length_nil, List.length_replicate, Nat.zero_add, Nat.reduceAdd, Nat.reduceLeDiff, Nat.le_refl]; done) | rfl) (at1B k2)) ?_
                refine l_step (y_moveV (et (gS rfl (gS rfl (gS rfl (gS rfl (gS rfl (gS rfl (gS rfl (gS rfl (gS rfl (gS rfl g0)))))))))) rfl)) ?_
                have hb37 : ∀ w, (Instr.build 232 ([(0, (Value.agg (bL (be 20 a)).toArray)), (1, vk)] : List (Nat × Value)).toArray).run Hvaa.prog w = .ok (.agg ([(bL (be 20 a)), ([vk])] : List (List Value)).flatten.toArray) w := bld_run zr_232 plc_232 (fill_flat (off := 0) (k := 20) (f := (List.replicate 20 (.int .u8 0))) (c := bL (be 20 a)) (v := (Value.agg (bL (be 20 a)).toArray)) rfl rfl (by first | (simp [length_bL, length_be, length_uL]; done) | rfl) (by first | rfl | (simp [length_bL, length_be, length_uL]; done)) rfl (by first | (simp [length_bL, length_be, length_uL]; done) | rfl) (fill_flat (off := 20) (k := 1) (f := [.slice none 0 0]) (c := [vk]) (v := vk) rfl (cells_one hK.one1) (by first | (simp [length_bL, length_be, length_uL]; done) | rfl) (by first | (simp [length_bL, length_be, length_uL]; done) | rfl) rfl (by first | (simp [length_bL, length_be, length_uL]; done) | rfl) (fill_nil _ _)))
                refine l_step ((y_bld (bC (et (gS rfl g0) rfl) (bC (et g0 rfl) bN)) hb37).to (congrArg (fun l : List Value => Value.agg l.toArray) (show _ = bL (be 20 a) ++ [vk] by simp))) ?_
                refine l_eff (e_slice1 Hvaa.underlying94 sz_232 zr_232 rfl (by decide) (et g0 rfl) (by rw [show (Value.agg ((bL (be 20 a) ++ [vk])).toArray).cells = ((bL (be 20 a) ++ [vk])).toArray from rfl, List.size_toArray, len21])) (fun v38 w38 h38 => ?_)
                obtain ⟨b38, rfl, n38⟩ := h38
                replace k2 := k2.up n38.up
                replace k19 := k19.up n38.up
                replace hF := hF.up n38.up
                replace kS := kS.up n38.up
                replace hO := hO.up n38.up
                replace U := U.tr n38.up
                replace V12 := V12.tr n38.up
                have kq38 : Blk w38 b38 ((bL (be 20 a) ++ [vk])).toArray := n38.blk
                have hbz : base ≤ w38.heap.size := by have := k19.lt; omega
                refine l_eff (e_appL Hvaa.underlying94 sz_232 zr_232 by_232 rfl (by decide) (et (gS rfl (gS rfl (gS rfl (gS rfl g0)))) rfl) hO (et g0 rfl) len21 kq38 (one_app (one_sgl hK.one1)) (mark_cells hK ha (W_bd hkb)) (by decide) (by first | omega | (simp; omega)) hbz) (fun v39 w39 h39 => ?_)
                obtain ⟨hO39, c39, hown39⟩ := h39
                have hOo := hO
                have nO9 := hown39 _ k19.lt (hO.ne (by omega))
                replace k2 := k2.ch c39 (by first | omega | exact hOo.ne (by omega) | assumption | (intro q hq; exact hOo.ne (by have := hF0.lt hq; omega)))
                replace k19 := k19.ch c39 (by first | omega | exact hOo.ne (by omega) | assumption | (intro q hq; exact hOo.ne (by have := hF0.lt hq; omega)))
                replace hF := hF.ch c39 (by first | omega | (intro q hq e; have := hF0.lt hq; omega) | (intro q hq e; exact hOo.ne (by have := hF0.lt hq; omega) e) | (intro q hq e; exact nbS (e ▸ hq)))
                replace kS := kS.ch c39 (by first | omega | exact hOo.ne (by omega))
                replace hO := hO39
                replace V12 := V12.cc c39 (by intro b hb; first | omega | (simp at hb ⊢; omega) | (have := hOo.lim b hb.symm; omega))
                replace U := U.cc c39 (by intro b hb; first | (have := hOo.lim b hb.symm; omega) | omega | exact .inl hb | exact .inr (hb ▸ U))
                refine l_step (y_assignV (et g0 rfl)) ?_
                refine l_nil ?_
                refine hK36 _ _ ?_
                refine fg8 0 2 4 6 17 18 19 9 (gS rfl (gS rfl (gS rfl (gS rfl (gS rfl (gS rfl (gS rfl (gS rfl (gS rfl (gS rfl (gS rfl (gS rfl (gS rfl (gS rfl (gS rfl (gS rfl g0)))))))))))))))) (gS rfl (gS rfl (gS rfl (gS rfl (gS rfl (gS rfl (gS rfl (gS rfl (gS rfl (gS rfl (gS rfl (gS rfl (gS rfl (gS rfl (gS rfl g0))))))))))))))) (gS rfl (gS rfl (gS rfl (gS rfl (gS rfl (gS rfl (gS rfl (gS rfl (gS rfl (gS rfl (gS rfl (gS rfl (gS rfl (gS rfl g0)))))))))))))) g0 (gS rfl (gS rfl (gS rfl (gS rfl (gS rfl (gS rfl (gS rfl (gS rfl (gS rfl (gS rfl (gS rfl g0))))))))))) (gS rfl (gS rfl (gS rfl (gS rfl (gS rfl (gS rfl (gS rfl (gS rfl (gS rfl (gS rfl g0)))))))))) (gS rfl (gS rfl (gS rfl (gS rfl (gS rfl (gS rfl (gS rfl (gS rfl (gS rfl g0))))))))) (gS rfl (gS rfl (gS rfl (gS rfl (gS rfl (gS rfl (gS rfl (gS rfl g0)))))))) (fun g => ?_)
                refine c_region ?_
                refine l_step y_assignC ?_
                refine l_nil ?_
                refine hK21 _ _ ?_
                refine c_region ?_
                refine l_step (y_moveV (et (gS rfl (gS rfl (gS rfl (gS rfl (gS rfl g0))))) rfl)) ?_
                refine l_step (y_loadB agg_232 sz_232 (et (gS rfl (gS rfl g0)) rfl) (by rw [List.size_toArray, len21]) (at1B k19)) ?_
                refine l_eff (e_slice1 Hvaa.underlying94 sz_232 zr_232 rfl (by decide) (et g0 rfl) (by rw [show (Value.agg ((bL (be 20 xs[i].1) ++ [vk1])).toArray).cells = ((bL (be 20 xs[i].1) ++ [vk1])).toArray from rfl, List.size_toArray, len21])) (fun v40 w40 h40 => ?_)
                obtain ⟨b40, rfl, n40⟩ := h40
                replace k2 := k2.up n40.up
                replace k19 := k19.up n40.up
                replace hF := hF.up n40.up
                replace kS := kS.up n40.up
                replace hO := hO.up n40.up
                replace U := U.tr n40.up
                replace V12 := V12.tr n40.up
                have kq40 : Blk w40 b40 ((bL (be 20 xs[i].1) ++ [vk1])).toArray := n40.blk
                have hbz : base ≤ w40.heap.size := by have := k19.lt; omega
                refine l_eff (e_appL Hvaa.underlying94 sz_232 zr_232 by_232 rfl (by decide) (et (gS rfl (gS rfl g0)) rfl) hO (et g0 rfl) len21 kq40 hPo hP (by decide) (by first | omega | (simp; omega)) hbz) (fun v41 w41 h41 => ?_)
                obtain ⟨hO41, c41, hown41⟩ := h41
                have hOo := hO
                replace k2 := k2.ch c41 (by first | omega | exact hOo.ne (by omega) | assumption | (intro q hq; exact hOo.ne (by have := hF0.lt hq; omega)))
                replace k19 := k19.ch c41 (by first | omega | exact hOo.ne (by omega) | assumption | (intro q hq; exact hOo.ne (by have := hF0.lt hq; omega)))
                replace hF := hF.ch c41 (by first | omega | (intro q hq e; have := hF0.lt hq; omega) | (intro q hq e; exact hOo.ne (by have := hF0.lt hq; omega) e) | (intro q hq e; exact nbS (e ▸ hq)))
                replace kS := kS.ch c41 (by first | omega | exact hOo.ne (by omega))
                replace hO := hO41
                replace V12 := V12.cc c41 (by intro b hb; first | omega | (simp at hb ⊢; omega) | (have := hOo.lim b hb.symm; omega))
                replace U := U.cc c41 (by intro b hb; first | (have := hOo.lim b hb.symm; omega) | omega | exact .inl hb | exact .inr (hb ▸ U))
                refine l_step (y_assignV (et g0 rfl)) ?_
                refine l_nil ?_
                refine hQ17 _ _ _ (in_normal ?_)
                refine hK16 _ _ ?_
                refine fg8 0 2 4 6 17 18 19 7 (gS rfl (gS rfl (gS rfl (gS rfl (gS rfl (gS rfl (gS rfl (gS rfl (gS rfl (gS rfl (gS rfl (gS rfl (gS rfl g0))))))))))))) (gS rfl (gS rfl (gS rfl (gS rfl (gS rfl (gS rfl (gS rfl (gS rfl (gS rfl (gS rfl (gS rfl (gS rfl g0)))))))))))) (gS rfl (gS rfl (gS rfl (gS rfl (gS rfl (gS rfl (gS rfl (gS rfl (gS rfl (gS rfl (gS rfl g0))))))))))) g0 (gS rfl (gS rfl (gS rfl (gS rfl (gS rfl (gS rfl (gS rfl (gS rfl (gS rfl g0))))))))) (gS rfl (gS rfl (gS rfl (gS rfl (gS rfl (gS rfl (gS rfl (gS rfl g0)))))))) (gS rfl (gS rfl (gS rfl (gS rfl (gS rfl (gS rfl (gS rfl g0))))))) (gS rfl (gS rfl (gS rfl (gS rfl (gS rfl g0))))) (fun g => ?_)
                refine c_region ?_
                refine l_step (y_add (et (gS rfl g0) rfl) rfl (addIN (y := 1) ?_)) ?_
                omega
                refine l_step (y_moveV (et g0 rfl)) ?_
                refine l_nil ?_
                refine fK8 0 2 4 6 7 17 18 19 (gS rfl (gS rfl (gS rfl (gS rfl (gS rfl (gS rfl (gS rfl (gS rfl (gS rfl g0))))))))) (gS rfl (gS rfl (gS rfl (gS rfl (gS rfl (gS rfl (gS rfl (gS rfl g0)))))))) (gS rfl (gS rfl (gS rfl (gS rfl (gS rfl (gS rfl (gS rfl g0))))))) (gS rfl (gS rfl (gS rfl (gS rfl (gS rfl (gS rfl g0)))))) (gS rfl (gS rfl g0)) (gS rfl (gS rfl (gS rfl (gS rfl (gS rfl g0))))) (gS rfl (gS rfl (gS rfl (gS rfl g0)))) g0 (fun g => ?_)
                exact hK12 (xs.length - ((i + 1))) _ _ (by omega) ⟨g, _, true, (O ++ [(a, key)] ++ [xs[i]]), (i + 1), rfl, rfl, by omega, hO, by rw [hlb] at hOl; simp at hOl ⊢; omega, put_keep (put_lay (by rw [hlb] at hfin; exact hfin) (by simpa using hcd)) rfl, V12⟩
              · skip
                
                have hcd : ltM a key xs[i] = false := by unfold ltM; rw [h30, h35, cB3]; rfl
                refine c_skip ?_
                refine hK21 _ _ ?_
                refine fg9 0 2 4 6 7 17 18 19 9 (gS rfl (gS rfl (gS rfl (gS rfl (gS rfl (gS rfl (gS rfl (gS rfl (gS rfl g0))))))))) (gS rfl (gS rfl (gS rfl (gS rfl (gS rfl (gS rfl (gS rfl (gS rfl g0)))))))) (gS rfl (gS rfl (gS rfl (gS rfl (gS rfl (gS rfl (gS rfl g0))))))) (gS rfl (gS rfl (gS rfl (gS rfl (gS rfl (gS rfl g0)))))) (gS rfl (gS rfl (gS rfl (gS rfl (gS rfl g0))))) (gS rfl (gS rfl (gS rfl (gS rfl g0)))) (gS rfl (gS rfl (gS rfl g0))) (gS rfl (gS rfl g0)) (gS rfl g0) (fun g => ?_)
                refine c_region ?_
                refine l_step (y_moveV (et (gS rfl (gS rfl (gS rfl (gS rfl (gS rfl g0))))) rfl)) ?_
                refine l_step (y_loadB agg_232 sz_232 (et (gS rfl g0) rfl) (by rw [List.size_toArray, len21]) (at1B k19)) ?_
                refine l_eff (e_slice1 Hvaa.underlying94 sz_232 zr_232 rfl (by decide) (et g0 rfl) (by rw [show (Value.agg ((bL (be 20 xs[i].1) ++ [vk1])).toArray).cells = ((bL (be 20 xs[i].1) ++ [vk1])).toArray from rfl, List.size_toArray, len21])) (fun v42 w42 h42 => ?_)
                obtain ⟨b42, rfl, n42⟩ := h42
                replace k2 := k2.up n42.up
                replace k19 := k19.up n42.up
                replace hF := hF.up n42.up
                replace kS := kS.up n42.up
                replace hO := hO.up n42.up
                replace U := U.tr n42.up
                replace V12 := V12.tr n42.up
                have kq42 : Blk w42 b42 ((bL (be 20 xs[i].1) ++ [vk1])).toArray := n42.blk
                have hbz : base ≤ w42.heap.size := by have := k19.lt; omega
                refine l_eff (e_appL Hvaa.underlying94 sz_232 zr_232 by_232 rfl (by decide) (et (gS rfl (gS rfl g0)) rfl) hO (et g0 rfl) len21 kq42 hPo hP (by decide) (by first | omega | (simp; omega)) hbz) (fun v43 w43 h43 => ?_)
                obtain ⟨hO43, c43, hown43⟩ := h43
                have hOo := hO
                replace k2 := k2.ch c43 (by first | omega | exact hOo.ne (by omega) | assumption | (intro q hq; exact hOo.ne (by have := hF0.lt hq; omega)))
                replace k19 := k19.ch c43 (by first | omega | exact hOo.ne (by omega) | assumption | (intro q hq; exact hOo.ne (by have := hF0.lt hq; omega)))
                replace hF := hF.ch c43 (by first | omega | (intro q hq e; have := hF0.lt hq; omega) | (intro q hq e; exact hOo.ne (by have := hF0.lt hq; omega) e) | (intro q hq e; exact nbS (e ▸ hq)))
                replace kS := kS.ch c43 (by first | omega | exact hOo.ne (by omega))
                replace hO := hO43
                replace V12 := V12.cc c43 (by intro b hb; first | omega | (simp at hb ⊢; omega) | (have := hOo.lim b hb.symm; omega))
                replace U := U.cc c43 (by intro b hb; first | (have := hOo.lim b hb.symm; omega) | omega | exact .inl hb | exact .inr (hb ▸ U))
                refine l_step (y_assignV (et g0 rfl)) ?_
                refine l_nil ?_
                refine hQ17 _ _ _ (in_normal ?_)
                refine hK16 _ _ ?_
                refine fg8 0 2 4 6 7 17 18 19 (gS rfl (gS rfl (gS rfl (gS rfl (gS rfl (gS rfl (gS rfl (gS rfl (gS rfl (gS rfl (gS rfl (gS rfl (gS rfl g0))))))))))))) (gS rfl (gS rfl (gS rfl (gS rfl (gS rfl (gS rfl (gS rfl (gS rfl (gS rfl (gS rfl (gS rfl (gS rfl g0)))))))))))) (gS rfl (gS rfl (gS rfl (gS rfl (gS rfl (gS rfl (gS rfl (gS rfl (gS rfl (gS rfl (gS rfl g0))))))))))) g0 (gS rfl (gS rfl (gS rfl (gS rfl (gS rfl (gS rfl (gS rfl (gS rfl (gS rfl g0))))))))) (gS rfl (gS rfl (gS rfl (gS rfl (gS rfl (gS rfl (gS rfl (gS rfl g0)))))))) (gS rfl (gS rfl (gS rfl (gS rfl (gS rfl (gS rfl (gS rfl g0))))))) (gS rfl (gS rfl (gS rfl (gS rfl (gS rfl (gS rfl g0)))))) (fun g => ?_)
                refine c_region ?_
                refine l_step (y_add (et g0 rfl) rfl (addIN (y := 1) ?_)) ?_
                omega
                refine l_step (y_moveV (et g0 rfl)) ?_
                refine l_nil ?_
                refine fK8 0 2 4 6 7 17 18 19 (gS rfl (gS rfl (gS rfl (gS rfl (gS rfl (gS rfl (gS rfl (gS rfl (gS rfl g0))))))))) (gS rfl (gS rfl (gS rfl (gS rfl (gS rfl (gS rfl (gS rfl (gS rfl g0)))))))) (gS rfl (gS rfl (gS rfl (gS rfl (gS rfl (gS rfl (gS rfl g0))))))) (gS rfl (gS rfl (gS rfl (gS rfl (gS rfl (gS rfl g0)))))) (gS rfl (gS rfl (gS rfl (gS rfl (gS rfl g0))))) (gS rfl (gS rfl (gS rfl (gS rfl g0)))) (gS rfl (gS rfl (gS rfl g0))) g0 (fun g => ?_)
                exact hK12 (xs.length - ((i + 1))) _ _ (by omega) ⟨g, _, lb, (O ++ [xs[i]]), (i + 1), rfl, rfl, by omega, hO, by simp; omega, pass_step hfin (by first | exact .inl hlb | exact .inr (by simpa using hcd)) rfl, V12⟩
            · skip
              have hcd : ltM a key xs[i] = false := by unfold ltM; rw [h30, q33]; rfl
              refine l_gskip (j := 12) (t := 35) (by exact rfl) (by exact rfl) (et g0 rfl) (by decide) (by decide) ?_
              refine l_gskip (j := 12) (t := 35) (by exact rfl) (by exact rfl) (et (gS rfl g0) rfl) (by decide) (by decide) ?_
              refine l_gskip (j := 12) (t := 35) (by exact rfl) (by exact rfl) (et (gS rfl (gS rfl g0)) rfl) (by decide) (by decide) ?_
              refine l_gskip (j := 12) (t := 35) (by exact rfl) (by exact rfl) (et (gS rfl (gS rfl (gS rfl g0))) rfl) (by decide) (by decide) ?_
              refine l_gskip (j := 12) (t := 35) (by exact rfl) (by exact rfl) (et (gS rfl (gS rfl (gS rfl (gS rfl g0)))) rfl) (by decide) (by decide) ?_
              refine l_gstep (j := 7) (t := 30) (by exact rfl) (by exact rfl) (et (gS rfl (gS rfl (gS rfl (gS rfl (gS rfl (gS rfl (gS rfl (gS rfl (gS rfl (gS rfl (gS rfl g0))))))))))) rfl) (by decide) (y_pickF (et (gS rfl (gS rfl (gS rfl (gS rfl (gS rfl g0))))) rfl) rfl) ?_
              refine l_gstep (j := 2) (t := 25) (by exact rfl) (by exact rfl) (et (gS rfl (gS rfl (gS rfl (gS rfl (gS rfl (gS rfl (gS rfl (gS rfl (gS rfl (gS rfl (gS rfl (gS rfl (gS rfl (gS rfl (gS rfl (gS rfl (gS rfl (gS rfl g0)))))))))))))))))) rfl) (by decide) (y_pickF (et (gS rfl (gS rfl (gS rfl (gS rfl (gS rfl (gS rfl (gS rfl (gS rfl (gS rfl (gS rfl (gS rfl (gS rfl g0)))))))))))) rfl) (et g0 rfl)) ?_
              refine l_step (y_pickT (et (gS rfl (gS rfl (gS rfl (gS rfl (gS rfl (gS rfl (gS rfl (gS rfl (gS rfl (gS rfl (gS rfl (gS rfl (gS rfl (gS rfl (gS rfl (gS rfl (gS rfl (gS rfl (gS rfl g0))))))))))))))))))) rfl) (et g0 rfl)) ?_
              refine l_nil ?_
              refine hK22 _ _ ?_
              refine fg10 0 2 4 6 7 17 18 19 9 43 (gS rfl (gS rfl (gS rfl (gS rfl (gS rfl (gS rfl (gS rfl (gS rfl (gS rfl (gS rfl (gS rfl (gS rfl (gS rfl (gS rfl (gS rfl (gS rfl (gS rfl (gS rfl (gS rfl (gS rfl (gS rfl (gS rfl (gS rfl (gS rfl (gS rfl (gS rfl (gS rfl (gS rfl (gS rfl (gS rfl (gS rfl (gS rfl g0)))))))))))))))))))))))))))))))) (gS rfl (gS rfl (gS rfl (gS rfl (gS rfl (gS rfl (gS rfl (gS rfl (gS rfl (gS rfl (gS rfl (gS rfl (gS rfl (gS rfl (gS rfl (gS rfl (gS rfl (gS rfl (gS rfl (gS rfl (gS rfl (gS rfl (gS rfl (gS rfl (gS rfl (gS rfl (gS rfl (gS rfl (gS rfl (gS rfl (gS rfl g0))))))))))))))))))))))))))))))) (gS rfl (gS rfl (gS rfl (gS rfl (gS rfl (gS rfl (gS rfl (gS rfl (gS rfl (gS rfl (gS rfl (gS rfl (gS rfl (gS rfl (gS rfl (gS rfl (gS rfl (gS rfl (gS rfl (gS rfl (gS rfl (gS rfl (gS rfl (gS rfl (gS rfl (gS rfl (gS rfl (gS rfl (gS rfl (gS rfl g0)))))))))))))))))))))))))))))) (gS rfl (gS rfl (gS rfl (gS rfl (gS rfl (gS rfl (gS rfl (gS rfl (gS rfl (gS rfl (gS rfl (gS rfl (gS rfl (gS rfl (gS rfl (gS rfl (gS rfl (gS rfl (gS rfl (gS rfl (gS rfl (gS rfl (gS rfl (gS rfl (gS rfl (gS rfl (gS rfl (gS rfl (gS rfl g0))))))))))))))))))))))))))))) (gS rfl (gS rfl (gS rfl (gS rfl (gS rfl (gS rfl (gS rfl (gS rfl (gS rfl (gS rfl (gS rfl (gS rfl (gS rfl (gS rfl (gS rfl (gS rfl (gS rfl (gS rfl (gS rfl (gS rfl (gS rfl (gS rfl (gS rfl (gS rfl (gS rfl (gS rfl (gS rfl (gS rfl g0)))))))))))))))))))))))))))) (gS rfl (gS rfl (gS rfl (gS rfl (gS rfl (gS rfl (gS rfl (gS rfl (gS rfl (gS rfl (gS rfl (gS rfl (gS rfl (gS rfl (gS rfl (gS rfl (gS rfl (gS rfl (gS rfl (gS rfl (gS rfl (gS rfl (gS rfl (gS rfl (gS rfl (gS rfl (gS rfl g0))))))))))))))))))))))))))) (gS rfl (gS rfl (gS rfl (gS rfl (gS rfl (gS rfl (gS rfl (gS rfl (gS rfl (gS rfl (gS rfl (gS rfl (gS rfl (gS rfl (gS rfl (gS rfl (gS rfl (gS rfl (gS rfl (gS rfl (gS rfl (gS rfl (gS rfl (gS rfl (gS rfl (gS rfl g0)))))))))))))))))))))))))) (gS rfl (gS rfl (gS rfl (gS rfl (gS rfl (gS rfl (gS rfl (gS rfl (gS rfl (gS rfl (gS rfl (gS rfl (gS rfl (gS rfl (gS rfl (gS rfl (gS rfl (gS rfl (gS rfl (gS rfl (gS rfl (gS rfl (gS rfl (gS rfl (gS rfl g0))))))))))))))))))))))))) (gS rfl (gS rfl (gS rfl (gS rfl (gS rfl (gS rfl (gS rfl (gS rfl (gS rfl (gS rfl (gS rfl (gS rfl (gS rfl (gS rfl (gS rfl (gS rfl (gS rfl (gS rfl (gS rfl (gS rfl (gS rfl (gS rfl (gS rfl (gS rfl g0)))))))))))))))))))))))) g0 (fun g => ?_)
              refine c_false (et g0 rfl) rfl ?_
              refine c_skip ?_
              refine hK21 _ _ ?_
              refine fg9 0 2 4 6 7 17 18 19 9 (gS rfl (gS rfl (gS rfl (gS rfl (gS rfl (gS rfl (gS rfl (gS rfl (gS rfl g0))))))))) (gS rfl (gS rfl (gS rfl (gS rfl (gS rfl (gS rfl (gS rfl (gS rfl g0)))))))) (gS rfl (gS rfl (gS rfl (gS rfl (gS rfl (gS rfl (gS rfl g0))))))) (gS rfl (gS rfl (gS rfl (gS rfl (gS rfl (gS rfl g0)))))) (gS rfl (gS rfl (gS rfl (gS rfl (gS rfl g0))))) (gS rfl (gS rfl (gS rfl (gS rfl g0)))) (gS rfl (gS rfl (gS rfl g0))) (gS rfl (gS rfl g0)) (gS rfl g0) (fun g => ?_)
              refine c_region ?_
              refine l_step (y_moveV (et (gS rfl (gS rfl (gS rfl (gS rfl (gS rfl g0))))) rfl)) ?_
              refine l_step (y_loadB agg_232 sz_232 (et (gS rfl g0) rfl) (by rw [List.size_toArray, len21]) (at1B k19)) ?_
              refine l_eff (e_slice1 Hvaa.underlying94 sz_232 zr_232 rfl (by decide) (et g0 rfl) (by rw [show (Value.agg ((bL (be 20 xs[i].1) ++ [vk1])).toArray).cells = ((bL (be 20 xs[i].1) ++ [vk1])).toArray from rfl, List.size_toArray, len21])) (fun v45 w45 h45 => ?_)
              obtain ⟨b45, rfl, n45⟩ := h45
              replace k2 := k2.up n45.up
              replace k19 := k19.up n45.up
              replace hF := hF.up n45.up
              replace kS := kS.up n45.up
              replace hO := hO.up n45.up
              replace U := U.tr n45.up
              replace V12 := V12.tr n45.up
              have kq45 : Blk w45 b45 ((bL (be 20 xs[i].1) ++ [vk1])).toArray := n45.blk
              have hbz : base ≤ w45.heap.size := by have := k19.lt; omega
              refine l_eff (e_appL Hvaa.underlying94 sz_232 zr_232 by_232 rfl (by decide) (et (gS rfl (gS rfl g0)) rfl) hO (et g0 rfl) len21 kq45 hPo hP (by decide) (by first | omega | (simp; omega)) hbz) (fun v46 w46 h46 => ?_)
              obtain ⟨hO46, c46, hown46⟩ := h46
              have hOo := hO
              replace k2 := k2.ch c46 (by first | omega | exact hOo.ne (by omega) | assumption | (intro q hq; exact hOo.ne (by have := hF0.lt hq; omega)))
              replace k19 := k19.ch c46 (by first | omega | exact hOo.ne (by omega) | assumption | (intro q hq; exact hOo.ne (by have := hF0.lt hq; omega)))
              replace hF := hF.ch c46 (by first | omega | (intro q hq e; have := hF0.lt hq; omega) | (intro q hq e; exact hOo.ne (by have := hF0.lt hq; omega) e) | (intro q hq e; exact nbS (e ▸ hq)))
              replace kS := kS.ch c46 (by first | omega | exact hOo.ne (by omega))
              replace hO := hO46
              replace V12 := V12.cc c46 (by intro b hb; first | omega | (simp at hb ⊢; omega) | (have := hOo.lim b hb.symm; omega))
              replace U := U.cc c46 (by intro b hb; first | (have := hOo.lim b hb.symm; omega) | omega | exact .inl hb | exact .inr (hb ▸ U))
              refine l_step (y_assignV (et g0 rfl)) ?_
              refine l_nil ?_
              refine hQ17 _ _ _ (in_normal ?_)
              refine hK16 _ _ ?_
              refine fg8 0 2 4 6 7 17 18 19 (gS rfl (gS rfl (gS rfl (gS rfl (gS rfl (gS rfl (gS rfl (gS rfl (gS rfl (gS rfl (gS rfl (gS rfl (gS rfl g0))))))))))))) (gS rfl (gS rfl (gS rfl (gS rfl (gS rfl (gS rfl (gS rfl (gS rfl (gS rfl (gS rfl (gS rfl (gS rfl g0)))))))))))) (gS rfl (gS rfl (gS rfl (gS rfl (gS rfl (gS rfl (gS rfl (gS rfl (gS rfl (gS rfl (gS rfl g0))))))))))) g0 (gS rfl (gS rfl (gS rfl (gS rfl (gS rfl (gS rfl (gS rfl (gS rfl (gS rfl g0))))))))) (gS rfl (gS rfl (gS rfl (gS rfl (gS rfl (gS rfl (gS rfl (gS rfl g0)))))))) (gS rfl (gS rfl (gS rfl (gS rfl (gS rfl (gS rfl (gS rfl g0))))))) (gS rfl (gS rfl (gS rfl (gS rfl (gS rfl (gS rfl g0)))))) (fun g => ?_)
              refine c_region ?_
              refine l_step (y_add (et g0 rfl) rfl (addIN (y := 1) ?_)) ?_
              omega
              refine l_step (y_moveV (et g0 rfl)) ?_
              refine l_nil ?_
              refine fK8 0 2 4 6 7 17 18 19 (gS rfl (gS rfl (gS rfl (gS rfl (gS rfl (gS rfl (gS rfl (gS rfl (gS rfl g0))))))))) (gS rfl (gS rfl (gS rfl (gS rfl (gS rfl (gS rfl (gS rfl (gS rfl g0)))))))) (gS rfl (gS rfl (gS rfl (gS rfl (gS rfl (gS rfl (gS rfl g0))))))) (gS rfl (gS rfl (gS rfl (gS rfl (gS rfl (gS rfl g0)))))) (gS rfl (gS rfl (gS rfl (gS rfl (gS rfl g0))))) (gS rfl (gS rfl (gS rfl (gS rfl g0)))) (gS rfl (gS rfl (gS rfl g0))) g0 (fun g => ?_)
              exact hK12 (xs.length - ((i + 1))) _ _ (by omega) ⟨g, _, lb, (O ++ [xs[i]]), (i + 1), rfl, rfl, by omega, hO, by simp; omega, pass_step hfin (by first | exact .inl hlb | exact .inr (by simpa using hcd)) rfl, V12⟩
        · skip
          have hlb : lb = true := by simpa using q23
          refine l_gskip (j := 2) (t := 25) (by exact rfl) (by exact rfl) (et g0 rfl) (by decide) (by decide) ?_
          refine l_gskip (j := 2) (t := 25) (by exact rfl) (by exact rfl) (et (gS rfl g0) rfl) (by decide) (by decide) ?_
          refine l_gskip (j := 2) (t := 25) (by exact rfl) (by exact rfl) (et (gS rfl (gS rfl g0)) rfl) (by decide) (by decide) ?_
          refine l_gskip (j := 2) (t := 25) (by exact rfl) (by exact rfl) (et (gS rfl (gS rfl (gS rfl g0))) rfl) (by decide) (by decide) ?_
          refine l_gskip (j := 2) (t := 25) (by exact rfl) (by exact rfl) (et (gS rfl (gS rfl (gS rfl (gS rfl g0)))) rfl) (by decide) (by decide) ?_
          refine l_uskip (j := 7) (t := 30) (by exact rfl) (by exact rfl) (et g0 rfl) rfl ?_
          refine l_uskip (j := 7) (t := 30) (by exact rfl) (by exact rfl) (et (gS rfl g0) rfl) rfl ?_
          refine l_uskip (j := 7) (t := 30) (by exact rfl) (by exact rfl) (et (gS rfl (gS rfl g0)) rfl) rfl ?_
          refine l_uskip (j := 7) (t := 30) (by exact rfl) (by exact rfl) (et (gS rfl (gS rfl (gS rfl g0))) rfl) rfl ?_
          refine l_uskip (j := 7) (t := 30) (by exact rfl) (by exact rfl) (et (gS rfl (gS rfl (gS rfl (gS rfl g0)))) rfl) rfl ?_
          refine l_uskip (j := 12) (t := 35) (by exact rfl) (by exact rfl) (et g0 rfl) rfl ?_
          refine l_uskip (j := 12) (t := 35) (by exact rfl) (by exact rfl) (et (gS rfl g0) rfl) rfl ?_
          refine l_uskip (j := 12) (t := 35) (by exact rfl) (by exact rfl) (et (gS rfl (gS rfl g0)) rfl) rfl ?_
          refine l_uskip (j := 12) (t := 35) (by exact rfl) (by exact rfl) (et (gS rfl (gS rfl (gS rfl g0))) rfl) rfl ?_
          refine l_uskip (j := 12) (t := 35) (by exact rfl) (by exact rfl) (et (gS rfl (gS rfl (gS rfl (gS rfl g0)))) rfl) rfl ?_
          refine l_uskip (j := 7) (t := 30) (by exact rfl) (by exact rfl) (et (gS rfl (gS rfl (gS rfl (gS rfl (gS rfl (gS rfl (gS rfl (gS rfl (gS rfl (gS rfl g0)))))))))) rfl) rfl ?_
          refine l_gskip (j := 2) (t := 25) (by exact rfl) (by exact rfl) (et (gS rfl (gS rfl (gS rfl (gS rfl (gS rfl (gS rfl (gS rfl (gS rfl (gS rfl (gS rfl (gS rfl (gS rfl (gS rfl (gS rfl (gS rfl (gS rfl g0)))))))))))))))) rfl) (by decide) (by decide) ?_
          refine l_step (y_pickF (et (gS rfl (gS rfl (gS rfl (gS rfl (gS rfl (gS rfl (gS rfl (gS rfl (gS rfl (gS rfl (gS rfl (gS rfl (gS rfl (gS rfl (gS rfl (gS rfl (gS rfl g0))))))))))))))))) rfl) rfl) ?_
          refine l_nil ?_
          refine hK22 _ _ ?_
          refine fg10 0 2 4 6 7 17 18 19 9 43 (gS rfl (gS rfl (gS rfl (gS rfl (gS rfl (gS rfl (gS rfl (gS rfl (gS rfl (gS rfl (gS rfl (gS rfl (gS rfl (gS rfl (gS rfl (gS rfl (gS rfl (gS rfl (gS rfl (gS rfl (gS rfl (gS rfl (gS rfl (gS rfl (gS rfl (gS rfl (gS rfl (gS rfl (gS rfl (gS rfl g0)))))))))))))))))))))))))))))) (gS rfl (gS rfl (gS rfl (gS rfl (gS rfl (gS rfl (gS rfl (gS rfl (gS rfl (gS rfl (gS rfl (gS rfl (gS rfl (gS rfl (gS rfl (gS rfl (gS rfl (gS rfl (gS rfl (gS rfl (gS rfl (gS rfl (gS rfl (gS rfl (gS rfl (gS rfl (gS rfl (gS rfl (gS rfl g0))))))))))))))))))))))))))))) (gS rfl (gS rfl (gS rfl (gS rfl (gS rfl (gS rfl (gS rfl (gS rfl (gS rfl (gS rfl (gS rfl (gS rfl (gS rfl (gS rfl (gS rfl (gS rfl (gS rfl (gS rfl (gS rfl (gS rfl (gS rfl (gS rfl (gS rfl (gS rfl (gS rfl (gS rfl (gS rfl (gS rfl g0)))))))))))))))))))))))))))) (gS rfl (gS rfl (gS rfl (gS rfl (gS rfl (gS rfl (gS rfl (gS rfl (gS rfl (gS rfl (gS rfl (gS rfl (gS rfl (gS rfl (gS rfl (gS rfl (gS rfl (gS rfl (gS rfl (gS rfl (gS rfl (gS rfl (gS rfl (gS rfl (gS rfl (gS rfl (gS rfl g0))))))))))))))))))))))))))) (gS rfl (gS rfl (gS rfl (gS rfl (gS rfl (gS rfl (gS rfl (gS rfl (gS rfl (gS rfl (gS rfl (gS rfl (gS rfl (gS rfl (gS rfl (gS rfl (gS rfl (gS rfl (gS rfl (gS rfl (gS rfl (gS rfl (gS rfl (gS rfl (gS rfl (gS rfl g0)))))))))))))))))))))))))) (gS rfl (gS rfl (gS rfl (gS rfl (gS rfl (gS rfl (gS rfl (gS rfl (gS rfl (gS rfl (gS rfl (gS rfl (gS rfl (gS rfl (gS rfl (gS rfl (gS rfl (gS rfl (gS rfl (gS rfl (gS rfl (gS rfl (gS rfl (gS rfl (gS rfl g0))))))))))))))))))))))))) (gS rfl (gS rfl (gS rfl (gS rfl (gS rfl (gS rfl (gS rfl (gS rfl (gS rfl (gS rfl (gS rfl (gS rfl (gS rfl (gS rfl (gS rfl (gS rfl (gS rfl (gS rfl (gS rfl (gS rfl (gS rfl (gS rfl (gS rfl (gS rfl g0)))))))))))))))))))))))) (gS rfl (gS rfl (gS rfl (gS rfl (gS rfl (gS rfl (gS rfl (gS rfl (gS rfl (gS rfl (gS rfl (gS rfl (gS rfl (gS rfl (gS rfl (gS rfl (gS rfl (gS rfl (gS rfl (gS rfl (gS rfl (gS rfl (gS rfl g0))))))))))))))))))))))) (gS rfl (gS rfl (gS rfl (gS rfl (gS rfl (gS rfl (gS rfl (gS rfl (gS rfl (gS rfl (gS rfl (gS rfl (gS rfl (gS rfl (gS rfl (gS rfl (gS rfl (gS rfl (gS rfl (gS rfl (gS rfl (gS rfl g0)))))))))))))))))))))) g0 (fun g => ?_)
          refine c_false (et g0 rfl) rfl ?_
          refine c_skip ?_
          refine hK21 _ _ ?_
          refine fg9 0 2 4 6 7 17 18 19 9 (gS rfl (gS rfl (gS rfl (gS rfl (gS rfl (gS rfl (gS rfl (gS rfl (gS rfl g0))))))))) (gS rfl (gS rfl (gS rfl (gS rfl (gS rfl (gS rfl (gS rfl (gS rfl g0)))))))) (gS rfl (gS rfl (gS rfl (gS rfl (gS rfl (gS rfl (gS rfl g0))))))) (gS rfl (gS rfl (gS rfl (gS rfl (gS rfl (gS rfl g0)))))) (gS rfl (gS rfl (gS rfl (gS rfl (gS rfl g0))))) (gS rfl (gS rfl (gS rfl (gS rfl g0)))) (gS rfl (gS rfl (gS rfl g0))) (gS rfl (gS rfl g0)) (gS rfl g0) (fun g => ?_)
          refine c_region ?_
          refine l_step (y_moveV (et (gS rfl (gS rfl (gS rfl (gS rfl (gS rfl g0))))) rfl)) ?_
          refine l_step (y_loadB agg_232 sz_232 (et (gS rfl g0) rfl) (by rw [List.size_toArray, len21]) (at1B k19)) ?_
          refine l_eff (e_slice1 Hvaa.underlying94 sz_232 zr_232 rfl (by decide) (et g0 rfl) (by rw [show (Value.agg ((bL (be 20 xs[i].1) ++ [vk1])).toArray).cells = ((bL (be 20 xs[i].1) ++ [vk1])).toArray from rfl, List.size_toArray, len21])) (fun v48 w48 h48 => ?_)
          obtain ⟨b48, rfl, n48⟩ := h48
          replace k2 := k2.up n48.up
          replace k19 := k19.up n48.up
          replace hF := hF.up n48.up
          replace kS := kS.up n48.up
          replace hO := hO.up n48.up
          replace U := U.tr n48.up
          replace V12 := V12.tr n48.up
          have kq48 : Blk w48 b48 ((bL (be 20 xs[i].1) ++ [vk1])).toArray := n48.blk
          have hbz : base ≤ w48.heap.size := by have := k19.lt; omega
          refine l_eff (e_appL Hvaa.underlying94 sz_232 zr_232 by_232 rfl (by decide) (et (gS rfl (gS rfl g0)) rfl) hO (et g0 rfl) len21 kq48 hPo hP (by decide) (by first | omega | (simp; omega)) hbz) (fun v49 w49 h49 => ?_)
          obtain ⟨hO49, c49, hown49⟩ := h49
          have hOo := hO
          replace k2 := k2.ch c49 (by first | omega | exact hOo.ne (by omega) | assumption | (intro q hq; exact hOo.ne (by have := hF0.lt hq; omega)))
          replace k19 := k19.ch c49 (by first | omega | exact hOo.ne (by omega) | assumption | (intro q hq; exact hOo.ne (by have := hF0.lt hq; omega)))
          replace hF := hF.ch c49 (by first | omega | (intro q hq e; have := hF0.lt hq; omega) | (intro q hq e; exact hOo.ne (by have := hF0.lt hq; omega) e) | (intro q hq e; exact nbS (e ▸ hq)))
          replace kS := kS.ch c49 (by first | omega | exact hOo.ne (by omega))
          replace hO := hO49
          replace V12 := V12.cc c49 (by intro b hb; first | omega | (simp at hb ⊢; omega) | (have := hOo.lim b hb.symm; omega))
          replace U := U.cc c49 (by intro b hb; first | (have := hOo.lim b hb.symm; omega) | omega | exact .inl hb | exact .inr (hb ▸ U))
          refine l_step (y_assignV (et g0 rfl)) ?_
          refine l_nil ?_
          refine hQ17 _ _ _ (in_normal ?_)
          refine hK16 _ _ ?_
          refine fg8 0 2 4 6 7 17 18 19 (gS rfl (gS rfl (gS rfl (gS rfl (gS rfl (gS rfl (gS rfl (gS rfl (gS rfl (gS rfl (gS rfl (gS rfl (gS rfl g0))))))))))))) (gS rfl (gS rfl (gS rfl (gS rfl (gS rfl (gS rfl (gS rfl (gS rfl (gS rfl (gS rfl (gS rfl (gS rfl g0)))))))))))) (gS rfl (gS rfl (gS rfl (gS rfl (gS rfl (gS rfl (gS rfl (gS rfl (gS rfl (gS rfl (gS rfl g0))))))))))) g0 (gS rfl (gS rfl (gS rfl (gS rfl (gS rfl (gS rfl (gS rfl (gS rfl (gS rfl g0))))))))) (gS rfl (gS rfl (gS rfl (gS rfl (gS rfl (gS rfl (gS rfl (gS rfl g0)))))))) (gS rfl (gS rfl (gS rfl (gS rfl (gS rfl (gS rfl (gS rfl g0))))))) (gS rfl (gS rfl (gS rfl (gS rfl (gS rfl (gS rfl g0)))))) (fun g => ?_)
          refine c_region ?_
          refine l_step (y_add (et g0 rfl) rfl (addIN (y := 1) ?_)) ?_
          omega
          refine l_step (y_moveV (et g0 rfl)) ?_
          refine l_nil ?_
          refine fK8 0 2 4 6 7 17 18 19 (gS rfl (gS rfl (gS rfl (gS rfl (gS rfl (gS rfl (gS rfl (gS rfl (gS rfl g0))))))))) (gS rfl (gS rfl (gS rfl (gS rfl (gS rfl (gS rfl (gS rfl (gS rfl g0)))))))) (gS rfl (gS rfl (gS rfl (gS rfl (gS rfl (gS rfl (gS rfl g0))))))) (gS rfl (gS rfl (gS rfl (gS rfl (gS rfl (gS rfl g0)))))) (gS rfl (gS rfl (gS rfl (gS rfl (gS rfl g0))))) (gS rfl (gS rfl (gS rfl (gS rfl g0)))) (gS rfl (gS rfl (gS rfl g0))) g0 (fun g => ?_)
          exact hK12 (xs.length - ((i + 1))) _ _ (by omega) ⟨g, _, lb, (O ++ [xs[i]]), (i + 1), rfl, rfl, by omega, hO, by simp; omega, pass_step hfin (by first | exact .inl hlb | exact .inr (by simpa using hcd)) rfl, V12⟩
      · skip
        simp only [decide_eq_true_eq, decide_eq_false_iff_not, Int.not_lt, Int.not_le, Bool.not_eq_true', Bool.not_eq_false', Bool.not_eq_eq_eq_not, Bool.not_true, Bool.not_false] at cB2
        refine c_exit ?_
        refine hQ11 _ _ _ (in_exit ?_)
        refine hK9 _ _ ?_
        refine fg5 0 2 4 6 7 (gS rfl (gS rfl (gS rfl (gS rfl (gS rfl (gS rfl (gS rfl (gS rfl g0)))))))) (gS rfl (gS rfl (gS rfl (gS rfl (gS rfl (gS rfl (gS rfl g0))))))) (gS rfl (gS rfl (gS rfl (gS rfl (gS rfl (gS rfl g0)))))) (gS rfl (gS rfl (gS rfl (gS rfl (gS rfl g0))))) (gS rfl (gS rfl (gS rfl (gS rfl g0)))) (fun g => ?_)
        refine c_seq (fun K50 hK50 => ?_)
        refine c_seq (fun K51 hK51 => ?_)
        refine c_region ?_
        refine l_step (y_moveV (et g0 rfl)) ?_
        refine l_step (y_not (et g0 rfl)) ?_
        refine l_nil ?_
        refine hK51 _ _ ?_
        refine fg5 0 2 4 6 56 (gS rfl (gS rfl (gS rfl (gS rfl (gS rfl (gS rfl g0)))))) (gS rfl (gS rfl (gS rfl (gS rfl (gS rfl g0))))) (gS rfl (gS rfl (gS rfl (gS rfl g0)))) (gS rfl (gS rfl (gS rfl g0))) g0 (fun g => ?_)
        refine c_cond (et g0 rfl) (fun cB4 => ?_) (fun cB4 => ?_)
        · skip
          
          refine c_region ?_
          refine l_step (y_moveV (et (gS rfl g0) rfl)) ?_
          refine l_step (y_loadB agg_25 sz_25 (et (gS rfl (gS rfl (gS rfl g0))) rfl) (by first | (simp only [Value.cells, hV, aV, bV, wV, wL, List.size_toArray, length_bL, length_uL, length_be, size_spl, List.length_cons, List.length_nil, List.length_replicate, Nat.zero_add, Nat.reduceAdd, Nat.reduceLeDiff, Nat.le_refl]; done) | rfl) (at1B k2)) ?_
          refine l_step (y_moveV (et (gS rfl (gS rfl (gS rfl (gS rfl (gS rfl g0))))) rfl)) ?_
          have hb53 : ∀ w, (Instr.build 232 ([(0, (Value.agg (bL (be 20 a)).toArray)), (1, vk)] : List (Nat × Value)).toArray).run Hvaa.prog w = .ok (.agg ([(bL (be 20 a)), ([vk])] : List (List Value)).flatten.toArray) w := bld_run zr_232 plc_232 (fill_flat (off := 0) (k := 20) (f := (List.replicate 20 (.int .u8 0))) (c := bL (be 20 a)) (v := (Value.agg (bL (be 20 a)).toArray)) rfl rfl (by first | (simp [length_bL, length_be, length_uL]; done) | rfl) (by first | rfl | (simp [length_bL, length_be, length_uL]; done)) rfl (by first | (simp [length_bL, length_be, length_uL]; done) | rfl) (fill_flat (off := 20) (k := 1) (f := [.slice none 0 0]) (c := [vk]) (v := vk) rfl (cells_one hK.one1) (by first | (simp [length_bL, length_be, length_uL]; done) | rfl) (by first | (simp [length_bL, length_be, length_uL]; done) | rfl) rfl (by first | (simp [length_bL, length_be, length_uL]; done) | rfl) (fill_nil _ _)))
          refine l_step ((y_bld (bC (et (gS rfl g0) rfl) (bC (et g0 rfl) bN)) hb53).to (congrArg (fun l : List Value => Value.agg l.toArray) (show _ = bL (be 20 a) ++ [vk] by simp))) ?_
          refine l_eff (e_slice1 Hvaa.underlying94 sz_232 zr_232 rfl (by decide) (et g0 rfl) (by rw [show (Value.agg ((bL (be 20 a) ++ [vk])).toArray).cells = ((bL (be 20 a) ++ [vk])).toArray from rfl, List.size_toArray, len21])) (fun v54 w54 h54 => ?_)
          obtain ⟨b54, rfl, n54⟩ := h54
          replace k2 := k2.up n54.up
          replace hF := hF.up n54.up
          replace kS := kS.up n54.up
          replace hO := hO.up n54.up
          replace U := U.tr n54.up
          have kq54 : Blk w54 b54 ((bL (be 20 a) ++ [vk])).toArray := n54.blk
          have hbz : base ≤ w54.heap.size := Nat.le_trans hbW n54.up.size
          refine l_eff (e_appL Hvaa.underlying94 sz_232 zr_232 by_232 rfl (by decide) (et (gS rfl (gS rfl (gS rfl (gS rfl g0)))) rfl) hO (et g0 rfl) len21 kq54 (one_app (one_sgl hK.one1)) (mark_cells hK ha (W_bd hkb)) (by decide) (by first | omega | (simp; omega)) hbz) (fun v55 w55 h55 => ?_)
          obtain ⟨hO55, c55, hown55⟩ := h55
          have hOo := hO
          replace k2 := k2.ch c55 (by first | omega | exact hOo.ne (by omega) | assumption | (intro q hq; exact hOo.ne (by have := hF0.lt hq; omega)))
          replace hF := hF.ch c55 (by first | omega | (intro q hq e; have := hF0.lt hq; omega) | (intro q hq e; exact hOo.ne (by have := hF0.lt hq; omega) e) | (intro q hq e; exact nbS (e ▸ hq)))
          replace kS := kS.ch c55 (by first | omega | exact hOo.ne (by omega))
          replace hO := hO55
          replace U := U.cc c55 (by intro b hb; first | (have := hOo.lim b hb.symm; omega) | omega | exact .inl hb | exact .inr (hb ▸ U))
          refine l_step (y_assignV (et g0 rfl)) ?_
          refine l_nil ?_
          refine hK50 _ _ ?_
          refine fg2 0 6 (gS rfl (gS rfl (gS rfl (gS rfl (gS rfl (gS rfl (gS rfl (gS rfl (gS rfl (gS rfl (gS rfl g0))))))))))) g0 (fun g => ?_)
          refine c_region ?_
          refine l_step (y_moveV (et (gS rfl g0) rfl)) ?_
          refine l_step (y_moveV (et (gS rfl g0) rfl)) ?_
          refine l_step (y_nil (et (gS rfl g0) rfl)) ?_
          refine l_step (y_fld fld_98_2 (et g0 rfl)) ?_
          refine l_effN (e_store sz_94 (et g0 rfl) (cellsV (et (gS rfl (gS rfl g0)) rfl) (cells_one hO.one1)) rfl (by exact one_sgl hO.one1) kS (by (have := (Array.getElem?_eq_some_iff.1 hva).1; omega))) (fun v56 w56 h56 => ?_)
          obtain ⟨rfl, x56⟩ := h56
          replace k2 := k2.ch x56.ch (by omega)
          replace hF := hF.ch x56.ch (by first | omega | (intro q hq e; have := hF0.lt hq; omega) | (intro q hq e; exact hOo.ne (by have := hF0.lt hq; omega) e) | (intro q hq e; exact nbS (e ▸ hq)))
          replace kS := x56.blk
          replace hO := hO.wr x56 (by omega)
          replace U := U.st x56 (.inl (by first | rfl | (simp; done)))
          refine l_nil ?_
          refine end0 rfl ?_
          have hD : xs.drop i = [] := List.drop_of_length_le (by omega)
          rw [hD] at hfin
          obtain ⟨H2, g2, l2, lv⟩ := hO.keep mono_mark (⟨U, hF, Le.refl _, fun _ h => .inl h⟩ : Go (fun k => k = bs) w H _ H) (Le.refl _) hbw
          refine ⟨rfl, _, H2, g2, ?_, kS⟩
          rw [withM, if_neg hin, ← hfin]
          first | (have hlb : lb = false := by simpa using cB4
                   subst hlb
                   exact lv) | (have hlb : lb = true := by simpa using cB4
                                subst hlb
                                simpa [putP] using lv)
        · skip
          
          refine c_skip ?_
          refine hK50 _ _ ?_
          refine fg2 0 6 (gS rfl (gS rfl (gS rfl (gS rfl g0)))) (gS rfl g0) (fun g => ?_)
          refine c_region ?_
          refine l_step (y_moveV (et (gS rfl g0) rfl)) ?_
          refine l_step (y_moveV (et (gS rfl g0) rfl)) ?_
          refine l_step (y_nil (et (gS rfl g0) rfl)) ?_
          refine l_step (y_fld fld_98_2 (et g0 rfl)) ?_
          refine l_effN (e_store sz_94 (et g0 rfl) (cellsV (et (gS rfl (gS rfl g0)) rfl) (cells_one hO.one1)) rfl (by exact one_sgl hO.one1) kS (by (have := (Array.getElem?_eq_some_iff.1 hva).1; omega))) (fun v57 w57 h57 => ?_)
          obtain ⟨rfl, x57⟩ := h57
          replace k2 := k2.ch x57.ch (by omega)
          replace hF := hF.ch x57.ch (by first | omega | (intro q hq e; have := hF0.lt hq; omega) | (intro q hq e; exact hOo.ne (by have := hF0.lt hq; omega) e) | (intro q hq e; exact nbS (e ▸ hq)))
          replace kS := x57.blk
          replace hO := hO.wr x57 (by omega)
          replace U := U.st x57 (.inl (by first | rfl | (simp; done)))
          refine l_nil ?_
          refine end0 rfl ?_
          have hD : xs.drop i = [] := List.drop_of_length_le (by omega)
          rw [hD] at hfin
          obtain ⟨H2, g2, l2, lv⟩ := hO.keep mono_mark (⟨U, hF, Le.refl _, fun _ h => .inl h⟩ : Go (fun k => k = bs) w H _ H) (Le.refl _) hbw
          refine ⟨rfl, _, H2, g2, ?_, kS⟩
          rw [withM, if_neg hin, ← hfin]
          first | (have hlb : lb = false := by simpa using cB4
                   subst hlb
                   exact lv) | (have hlb : lb = true := by simpa using cB4
                                subst hlb
                                simpa [putP] using lv)
end Go.Proofs.YgvaawGreat
