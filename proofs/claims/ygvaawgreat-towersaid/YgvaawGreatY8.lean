import Derived.Test.YgvaawGreatY7
set_option maxRecDepth 100000
set_option maxHeartbeats 4000000
set_option linter.unusedSimpArgs false
set_option linter.unusedVariables false
namespace Go.Proofs.YgvaawGreat
open Go
section
variable {S : World → Prop} {n : Nat} {s : Nat → Value} {d : Option Nat} {ty : TypeId} {pos : String} {af : Array Edge} {g : Option (Nat × Bool)}
theorem y_fldV {x : Operand} {T f ft off : Nat} {fs : Array Field} {fd : Field} {cs : Array Value} {v : Value} (hU : Hvaa.prog.underlying T = some (.struct fs)) (hf : fs[f]? = some fd) (ht : fd.type = ft) (ho : fd.offset = off) (h1 : IsOne ft) (hx : ev n s x = .agg cs) (hc : cs[off]? = some v) : Yv S n s ⟨d, .field T x f, ty, pos, af, g⟩ v := fun w _ => by
  subst ht ho
  simp [execOp, hx, Instr.field, run_underlying hU, hf, asAgg, part, h1 w, hc]
end
theorem app20 {a : Nat} {l : List Value} {i o : Nat} (h : o = 20 + i) : (bL (be 20 a) ++ l).toArray[o]? = l[i]? := by
  subst h
  rw [List.getElem?_toArray, List.getElem?_append_right (by rw [length_bL, length_be]; omega), length_bL, length_be]
  congr 1; omega
theorem addr_row {a : Nat} {l : List Value} : ∀ i v, (bL (be 20 a))[i]? = some v → (bL (be 20 a) ++ l).toArray[0 + i]? = some v := by
  intro i v hv
  have : i < (bL (be 20 a)).length := (List.getElem?_eq_some_iff.1 hv).1
  rw [Nat.zero_add, List.getElem?_toArray, List.getElem?_append_left this]; exact hv
theorem NV.one1 {H : Store} {v : Value} {x : Nat} (h : NV H v x) : v.one1 = true := by
  obtain ⟨l, b, _⟩ := h.ex
  obtain ⟨a, c, e, _⟩ := b.sv.val
  rw [e]; rfl
theorem one_app {a : Nat} {l : List Value} (h : ∀ v ∈ l, v.one1 = true) : ∀ v ∈ bL (be 20 a) ++ l, v.one1 = true := by
  intro v hv
  rcases List.mem_append.1 hv with h1 | h1
  · exact one_bL _ v h1
  · exact h v h1
theorem one_two {x y : Value} (h1 : x.one1 = true) (h2 : y.one1 = true) : ∀ v ∈ [x, y], v.one1 = true := by
  intro v hv
  simp at hv
  rcases hv with rfl | rfl <;> assumption
theorem one_sgl {x : Value} (h1 : x.one1 = true) : ∀ v ∈ [x], v.one1 = true := by
  intro v hv
  simp at hv
  subst hv; exact h1
/-- a slot's value -/
def slotAt (l : List (Nat × Nat)) (k : Nat) : Nat := ((l.find? (fun x => x.1 == k)).map (·.2)).getD 0
def triAt (l : List (Nat × Nat × Nat)) (a k : Nat) : Nat := ((l.find? (fun x => x.1 == a && x.2.1 == k)).map (·.2.2)).getD 0
theorem slotAt_found {l : List (Nat × Nat)} {k i : Nat} (hi : i < l.length) (hn : ∀ j, (hj : j < i) → (l[j]'(by omega)).1 ≠ k) (he : l[i].1 = k) : slotAt l k = l[i].2 := by
  unfold slotAt
  rw [find_found hi (fun j hj => by simpa using hn j hj) (by simpa using he)]; rfl
theorem slotAt_none {l : List (Nat × Nat)} {k : Nat} (hn : ∀ j, (hj : j < l.length) → l[j].1 ≠ k) : slotAt l k = 0 := by
  unfold slotAt
  rw [find_none (fun j hj => by simpa using hn j hj)]; rfl
theorem triAt_found {l : List (Nat × Nat × Nat)} {a k i : Nat} (hi : i < l.length) (hn : ∀ j, (hj : j < i) → ¬ ((l[j]'(by omega)).1 = a ∧ (l[j]'(by omega)).2.1 = k)) (he : l[i].1 = a ∧ l[i].2.1 = k) : triAt l a k = l[i].2.2 := by
  unfold triAt
  rw [find_found hi (fun j hj => by have := hn j hj; simp only [Bool.and_eq_false_imp, beq_iff_eq, beq_eq_false_iff_ne]; intro h1 h2; exact this ⟨h1, h2⟩) (by simpa using he)]; rfl
theorem triAt_none {l : List (Nat × Nat × Nat)} {a k : Nat} (hn : ∀ j, (hj : j < l.length) → ¬ (l[j].1 = a ∧ l[j].2.1 = k)) : triAt l a k = 0 := by
  unfold triAt
  rw [find_none (fun j hj => by have := hn j hj; simp only [Bool.and_eq_false_imp, beq_iff_eq, beq_eq_false_iff_ne]; intro h1 h2; exact this ⟨h1, h2⟩)]; rfl
theorem yp_load (bs o sc0 a : Nat) (sa0 : Option Addr) (cs : Array Value) (accts : List YAcct) (w : World) (H : Store) (hF : Fz w H) (kS : Blk w bs cs) (hva : cs[o]? = some (.slice sa0 accts.length sc0)) (hL : LV P_acct 24 H (.slice sa0 accts.length sc0) accts) (ha : a < A160) (hn : accts.length < 9223372036854775808) {vk : Value} {key : Nat} (hK : NV H vk key) (hkb : key < 256 ^ 32) :
    Ret 232 [.pointer (some ⟨bs, o, none⟩), aV a, vk] w (fun v w' => NV H v (slotAt (acctAt accts a).slots key) ∧ Up w w') := by
  have hF0 := hF
  have lS := kS.lt
  refine enter (n := 26) Hvaa.func232 rfl rfl (Nat.le_of_ble_eq_true rfl) ?_
  have U := Up.refl w
  refine c_seq (fun K1 hK1 => ?_)
  refine c_region ?_
  refine l_eff (e_boxV (et (gS rfl g0) rfl)) (fun v2 w2 h2 => ?_)
  obtain ⟨b2, rfl, n2⟩ := h2
  have f2 : w.heap.size ≤ b2 := Nat.le_trans U.size n2.fresh
  replace hF := hF.up n2.up
  replace kS := kS.up n2.up
  replace U := U.tr n2.up
  have k2 := n2.blk
  replace k2 : Blk w2 b2 (bL (be 20 a)).toArray := k2
  refine l_step y_assignC ?_
  refine l_nil ?_
  refine hK1 _ _ ?_
  refine fg3 2 0 4 (gS rfl (gS rfl (gS rfl (gS rfl g0)))) (gS rfl (gS rfl g0)) (gS rfl g0) (fun g => ?_)
  refine c_seq (fun K3 hK3 => ?_)
  refine c_seq (fun K4 hK4 => ?_)
  refine c_region ?_
  refine l_step (y_moveV (et (gS rfl g0) rfl)) ?_
  refine l_step (y_loadB agg_25 sz_25 (et (gS rfl g0) rfl) (by first | (simp only [Value.cells, hV, aV, bV, wV, wL, List.size_toArray, length_bL, length_uL, length_be, size_spl, List.length_cons, List.length_nil, List.length_replicate, Nat.zero_add, Nat.reduceAdd, Nat.reduceLeDiff, Nat.le_refl]; done) | rfl) (at1B k2)) ?_
  refine l_eff (e_callV cal_43 (aC (et (gS rfl g0) rfl) (aC (et g0 rfl) aN)) (yp_account bs o sc0 a sa0 cs accts _ H hF kS hva hL ha hn)) (fun v5 w5 h5 => ?_)
  obtain ⟨c0, rfl, hP0, u5⟩ := h5
  replace k2 := k2.up u5
  replace hF := hF.up u5
  replace kS := kS.up u5
  replace U := U.tr u5
  obtain ⟨vn, vb, vc, vs, hc0, hA0, hn0, hb0, hcd0, hS0, hbd0⟩ := hP0
  obtain ⟨sa, sc, hvs, hsn, hsc⟩ := hS0.val
  obtain ⟨xs, hxs⟩ : ∃ xs, xs = (acctAt accts a).slots := ⟨_, rfl⟩
  rw [← hxs] at hS0 hvs hsn
  rw [hc0]
  rw [hvs] at hS0
  refine l_step (y_fldV Hvaa.underlying107 rfl rfl rfl one_105 (et g0 rfl) ((app20 (i := 3) rfl).trans (by rw [hvs]; rfl))) ?_
  refine l_step (y_len Hvaa.underlying105 (et g0 rfl)) ?_
  refine l_step y_moveC ?_
  refine l_nil ?_
  refine hK4 _ _ ?_
  refine fg4 2 12 13 14 (gS rfl (gS rfl (gS rfl (gS rfl (gS rfl (gS rfl (gS rfl (gS rfl g0)))))))) (gS rfl (gS rfl g0)) (gS rfl g0) g0 (fun g => ?_)
  refine c_block (fun Q6 hQ6 => ?_)
  refine fg4 2 12 13 14 (gS rfl (gS rfl (gS rfl g0))) (gS rfl (gS rfl g0)) (gS rfl g0) g0 (fun g => ?_)
  refine c_loop (fun k_ s_ W7 => ∃ (g : Nat → Value) (i : Nat), s_ = (upd (upd (upd (upd g 2 vk) 12 (.slice sa xs.length sc)) 13 (.int .i64 (xs.length : Nat))) 14 (.int .i64 (i : Nat))) ∧ xs.length - i = k_ ∧ (i ≤ xs.length) ∧ (∀ j, (hj : j < i) → ∀ h : j < xs.length, xs[j].1 ≠ key) ∧ Ch (fun k => False) w5 W7) (xs.length - (0)) ?_ ?_
  · exact ⟨g, 0, rfl, rfl, Nat.zero_le _, fun j hj => absurd hj (by omega), Ch.refl _ _⟩
  · skip
    intro k_ s_ W7 hI K7 hK7
    obtain ⟨g, i, rfl, rfl, hi, hno, V7⟩ := hI
    replace k2 := k2.ch V7 (by exact fun h => h)
    replace hF := hF.ch V7 (by first | exact fun h => h | exact fun _ h => h.elim | exact fun _ _ h => h)
    replace kS := kS.ch V7 (by first | exact fun h => h | exact fun _ h => h.elim | exact fun _ _ h => h)
    replace U := U.cc V7 (by intro b hb; first | exact hb.elim | omega | (simp at hb ⊢; omega))
    refine c_seq (fun K8 hK8 => ?_)
    refine c_region ?_
    refine l_step (y_lss (et g0 rfl) (et (gS rfl g0) rfl)) ?_
    refine l_nil ?_
    refine hK8 _ _ ?_
    refine c_seq (fun K9 hK9 => ?_)
    refine c_cond (et g0 rfl) (fun cB1 => ?_) (fun cB1 => ?_)
    · skip
      simp only [decide_eq_true_eq, decide_eq_false_iff_not, Int.not_lt, Int.not_le, Bool.not_eq_true', Bool.not_eq_false', Bool.not_eq_eq_eq_not, Bool.not_true, Bool.not_false] at cB1
      refine c_skip ?_
      refine hK9 _ _ ?_
      refine fg4 2 12 13 14 (gS rfl (gS rfl (gS rfl (gS rfl g0)))) (gS rfl (gS rfl (gS rfl g0))) (gS rfl (gS rfl g0)) (gS rfl g0) (fun g => ?_)
      refine c_seq (fun K11 hK11 => ?_)
      refine c_block (fun Q12 hQ12 => ?_)
      refine c_seq (fun K13 hK13 => ?_)
      refine c_region ?_
      obtain ⟨bq, oq, r, ha0, hrow, hrl, vk1, vv1, hr1, hk1, hv1, hkl, hvl⟩ := hS0.row hF (i := i) (by omega)
      rw [hr1] at hrow hrl
      refine l_step (y_idxSa ha0 Hvaa.underlying105 sz_115 (et (gS rfl (gS rfl g0)) rfl) (et g0 rfl) ?_) ?_
      omega
      refine l_step (y_loadR agg_115 sz_115 (et g0 rfl) rfl (at1R hrow)) ?_
      refine l_eff (e_alloc zr_115) (fun v14 w14 h14 => ?_)
      obtain ⟨b14, rfl, n14⟩ := h14
      have d2_14 : b2 < b14 := Nat.lt_of_lt_of_le k2.lt n14.fresh
      have f14 : w.heap.size ≤ b14 := Nat.le_trans U.size n14.fresh
      have fV7_14 := Nat.le_trans V7.size n14.fresh
      replace k2 := k2.up n14.up
      replace hF := hF.up n14.up
      replace kS := kS.up n14.up
      replace U := U.tr n14.up
      replace V7 := V7.tr n14.up
      have k14 := n14.blk
      refine l_effN (e_store sz_115 (et g0 rfl) (cellsV (et (gS rfl g0) rfl) rfl) rfl (by exact one_two hk1.one1 hv1.one1) k14 (by exact Nat.le_of_ble_eq_true rfl)) (fun v15 w15 h15 => ?_)
      obtain ⟨rfl, x15⟩ := h15
      replace k2 := k2.ch x15.ch (by omega)
      replace hF := hF.ch x15.ch (by first | omega | (first | omega | (intro q hq e; have := hF0.lt hq; omega)))
      replace kS := kS.ch x15.ch (by first | omega | (omega))
      replace k14 := x15.blk.full rfl
      replace U := U.st x15 f14
      replace V7 := V7.st x15 (by omega)
      refine l_nil ?_
      refine hK13 _ _ ?_
      refine fg5 2 12 13 14 8 (gS rfl (gS rfl (gS rfl (gS rfl (gS rfl (gS rfl g0)))))) (gS rfl (gS rfl (gS rfl (gS rfl (gS rfl g0))))) (gS rfl (gS rfl (gS rfl (gS rfl g0)))) (gS rfl (gS rfl (gS rfl g0))) g0 (fun g => ?_)
      refine c_seq (fun K16 hK16 => ?_)
      refine c_region ?_
      refine l_step (y_fld fld_115_0 (et g0 rfl)) ?_
      refine l_step (y_load1 one_95 (et g0 rfl) (at1 (k14.cell rfl))) ?_
      refine l_step (y_moveV (et (gS rfl (gS rfl (gS rfl (gS rfl (gS rfl (gS rfl g0)))))) rfl)) ?_
      refine l_eff (e_callV cal_121 (aC (et (gS rfl g0) rfl) (aC (et g0 rfl) aN)) (nat_cmp hF hk1 hK (smW hkl) (bd_sm hkb (by decide)))) (fun v17 w17 h17 => ?_)
      obtain ⟨rfl, u17⟩ := h17
      replace k2 := k2.up u17
      replace k14 := k14.up u17
      replace hF := hF.up u17
      replace kS := kS.up u17
      replace U := U.tr u17
      replace V7 := V7.tr u17
      refine l_step ((y_eql (et g0 rfl) rfl).to (congrArg Value.bool (cmp_eq0 xs[i].1 key))) ?_
      refine l_nil ?_
      refine hK16 _ _ ?_
      refine fg6 2 12 13 14 8 22 (gS rfl (gS rfl (gS rfl (gS rfl (gS rfl (gS rfl (gS rfl (gS rfl (gS rfl g0))))))))) (gS rfl (gS rfl (gS rfl (gS rfl (gS rfl (gS rfl (gS rfl (gS rfl g0)))))))) (gS rfl (gS rfl (gS rfl (gS rfl (gS rfl (gS rfl (gS rfl g0))))))) (gS rfl (gS rfl (gS rfl (gS rfl (gS rfl (gS rfl g0)))))) (gS rfl (gS rfl (gS rfl (gS rfl (gS rfl g0))))) g0 (fun g => ?_)
      refine c_cond (et g0 rfl) (fun cB2 => ?_) (fun cB2 => ?_)
      · skip
        
        have he : xs[i].1 = key := of_decide_eq_true cB2
        refine c_seq (fun K19 hK19 => ?_)
        refine c_region ?_
        refine l_step (y_fld fld_115_1 (et (gS rfl g0) rfl)) ?_
        refine l_step (y_load1 one_95 (et g0 rfl) (at1 (k14.cell rfl))) ?_
        refine l_step (y_assignV (et g0 rfl)) ?_
        refine l_nil ?_
        refine hK19 _ _ ?_
        refine fg1 6 g0 (fun g => ?_)
        refine c_ret ?_
        refine hQ12 _ _ _ (in_ret ?_)
        refine hQ6 _ _ _ (in_ret ?_)
        refine ret1 rfl (res_tmp (et g0 rfl)) ?_
        refine ⟨?_, U⟩
        rw [← hxs, slotAt_found (i := i) (by omega) (fun j hj => hno j hj (by omega)) he]; exact hv1
      · skip
        
        have hne : xs[i].1 ≠ key := of_decide_eq_false cB2
        refine c_skip ?_
        refine hQ12 _ _ _ (in_normal ?_)
        refine hK11 _ _ ?_
        refine fg4 2 12 13 14 (gS rfl (gS rfl (gS rfl (gS rfl (gS rfl g0))))) (gS rfl (gS rfl (gS rfl (gS rfl g0)))) (gS rfl (gS rfl (gS rfl g0))) (gS rfl (gS rfl g0)) (fun g => ?_)
        refine c_region ?_
        refine l_step (y_add (et g0 rfl) rfl (addIN (y := 1) ?_)) ?_
        omega
        refine l_step (y_moveV (et g0 rfl)) ?_
        refine l_nil ?_
        refine fK4 2 12 13 14 (gS rfl (gS rfl (gS rfl (gS rfl (gS rfl g0))))) (gS rfl (gS rfl (gS rfl (gS rfl g0)))) (gS rfl (gS rfl (gS rfl g0))) g0 (fun g => ?_)
        exact hK7 (xs.length - ((i + 1))) _ _ (by omega) ⟨g, (i + 1), rfl, rfl, by omega, fun j hj h => by
          rcases Nat.lt_or_ge j i with h1 | h1
          · exact hno j h1 h
          · have : j = i := by omega
            subst this; exact hne, V7⟩
    · skip
      simp only [decide_eq_true_eq, decide_eq_false_iff_not, Int.not_lt, Int.not_le, Bool.not_eq_true', Bool.not_eq_false', Bool.not_eq_eq_eq_not, Bool.not_true, Bool.not_false] at cB1
      refine c_exit ?_
      refine hQ6 _ _ _ (in_exit ?_)
      refine hK3 _ _ ?_
      refine fg0 (fun g => ?_)
      refine c_seq (fun K20 hK20 => ?_)
      refine c_region ?_
      refine l_step y_assignC ?_
      refine l_nil ?_
      refine hK20 _ _ ?_
      refine c_ret ?_
      refine ret1 rfl (res_tmp (et g0 rfl)) ?_
      refine ⟨?_, U⟩
      rw [← hxs, slotAt_none (fun j hj => hno j (by omega) hj)]; exact NV.nil H
end Go.Proofs.YgvaawGreat
