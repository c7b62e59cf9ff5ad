import Derived.Test.YgvaawGreatW13
import Derived.Test.YgvaawGreatE14
set_option maxRecDepth 100000
set_option maxHeartbeats 4000000
set_option linter.unusedSimpArgs false
set_option linter.unusedVariables false
namespace Go.Proofs.YgvaawGreat
open Go
theorem JS.same {V : EV} {f : AW → AW} (h : f (absV V) = absV V) (na ns nt nj nl : Nat) : JS V V f na ns nt nj nl := ⟨fun {A sv og} hv => by
    have e : f A = A := by rw [← hv.abs]; exact h
    rw [e]; exact hv, fun _ h => h, fun _ _ h => h, rfl, by omega, by omega, by omega, by omega, by omega⟩
theorem JS.ex {V V' : EV} {f g : AW → AW} {na ns nt nj nl : Nat} (h : JS V V' f na ns nt nj nl) (e : ∀ A, f A = g A) : JS V V' g na ns nt nj nl := ⟨fun {A sv og} hv => by rw [← e]; exact h.va hv, h.ha, h.hs, h.mr, h.na, h.ns, h.nt, h.nj, h.nl⟩
theorem JS.le {V V' : EV} {f : AW → AW} {na ns nt nj nl na' ns' nt' nj' nl' : Nat} (h : JS V V' f na ns nt nj nl) (h1 : na ≤ na') (h2 : ns ≤ ns') (h3 : nt ≤ nt') (h4 : nj ≤ nj') (h5 : nl ≤ nl') : JS V V' f na' ns' nt' nj' nl' := ⟨h.va, h.ha, h.hs, h.mr, by have := h.na; omega, by have := h.ns; omega, by have := h.nt; omega, by have := h.nj; omega, by have := h.nl; omega⟩
def wrmF (a : Nat) (A : AW) : AW := { A with warmA := fset A.warmA a true }
def wrsF (a k : Nat) (A : AW) : AW := { A with warmS := fset2 A.warmS a k true }
def keyF (a : Nat) (ks : List Nat) (A : AW) : AW := ks.foldl (fun A k => wrsF a k A) A
def lstF (l : List (Nat × List Nat)) (A : AW) : AW := l.foldl (fun A x => keyF x.1 x.2 (wrmF x.1 A)) A
theorem keyF_take {a : Nat} {ks : List Nat} {i : Nat} (h : i < ks.length) (A : AW) : keyF a (ks.take (i + 1)) A = wrsF a ks[i] (keyF a (ks.take i) A) := by
  unfold keyF
  rw [← List.take_append_getElem h, List.foldl_append]
  rfl
theorem lstF_take {l : List (Nat × List Nat)} {i : Nat} (h : i < l.length) (A : AW) : lstF (l.take (i + 1)) A = keyF l[i].1 l[i].2 (wrmF l[i].1 (lstF (l.take i) A)) := by
  unfold lstF
  rw [← List.take_append_getElem h, List.foldl_append]
  rfl
theorem fset_same {β : Type} {f : Nat → β} {a : Nat} {v : β} (h : f a = v) : fset f a v = f := by
  funext b
  unfold fset
  split
  · rename_i e; rw [e, h]
  · rfl
theorem wrm_same {A : AW} {a : Nat} (h : A.warmA a = true) : wrmF a A = A := by
  unfold wrmF
  rw [fset_same h]
theorem wrs_same {A : AW} {a k : Nat} (h : A.warmS a k = true) : wrsF a k A = A := by
  unfold wrsF
  have : fset2 A.warmS a k true = A.warmS := by
    funext b q
    unfold fset2
    split
    · rename_i e; rw [e.1, e.2, h]
    · rfl
  rw [this]
theorem has_warm {V : EV} {a : Nat} (h : (absV V).warmA a = true) : hasA V a := by
  refine Classical.byContradiction fun hn => ?_
  have h : (ax V a).warm = true := h
  rw [ax_no hn] at h
  cases h
theorem VA.mut {V : EV} {A : AW} {sv : List AW} {og : Nat → Nat → Nat} (h : VA V A sv og) : VA V (absV V) sv og := by rw [h.abs]; exact h
theorem e_warm {w : World} {H : Store} {col : Nat → Nat} {bc : Nat} {cs : Array Value} {V : EV} (hV : VL w H col bc cs V) (ho : VOk V) (a : Nat) (ha : a < A160) (hr : V.accts.length < 2560) (hjr : V.journal.length < 65536) :
    Ret 100 [.pointer (some ⟨bc, 2435, none⟩), aV a] w (fun v w' => v = .tuple #[] ∧ ∃ (col' : Nat → Nat) (cs' : Array Value) (V' : EV), VT w H col bc cs w' H col' cs' V' ∧ VOk V' ∧ JS V V' (wrmF a) 1 0 0 1 0) := by
  have hT := VT.refl hV
  have hnw := hV.new
  have hcC := hV.colC
  have hml := ho.bd.marks
  refine enter (n := 11) Hvaa.func100 rfl rfl (Nat.le_of_ble_eq_true rfl) ?_
  have U : Ch (fun _ => True) w w := Ch.refl _ w
  refine c_seq (fun K1 hK1 => ?_)
  exact (by
    refine c_region ?_
    refine l_eff (e_boxV (et (gS rfl g0) rfl)) (fun v2 w2 h2 => ?_)
    obtain ⟨b2, rfl, n2⟩ := h2
    have f2 : w.heap.size ≤ b2 := Nat.le_trans U.size n2.fresh
    replace hT := hT.up n2.up
    replace U := U.tr n2.up
    have k2 := n2.blk
    replace k2 : Blk w2 b2 (bL (be 20 a)).toArray := k2
    have nc2 : col b2 = 0 := hnw _ f2
    refine l_nil ?_
    refine hK1 _ _ ?_
    refine fg2 0 3 (gS rfl g0) g0 (fun g => ?_)
    refine c_seq (fun K3 hK3 => ?_)
    exact (by
      refine c_region ?_
      refine l_step (y_moveV (et (gS rfl g0) rfl)) ?_
      refine l_step (y_loadB agg_25 sz_25 (et (gS rfl g0) rfl) (by rw [List.size_toArray, length_bL, length_be]) (at1B k2)) ?_
      refine l_eff (e_callV cal_172 (aC (et (gS rfl g0) rfl) (aC (et g0 rfl) aN)) (v_isWarmAcct hT.vl ho a ha)) (fun v4 w4 h4 => ?_)
      obtain ⟨rfl, u4⟩ := h4
      replace k2 := k2.up u4
      replace hT := hT.up u4
      replace U := U.tr u4
      refine l_step (y_not (et g0 rfl)) ?_
      refine l_nil ?_
      refine hK3 _ _ ?_
      refine fg3 0 3 7 (gS rfl (gS rfl (gS rfl (gS rfl (gS rfl g0))))) (gS rfl (gS rfl (gS rfl (gS rfl g0)))) g0 (fun g => ?_)
      refine c_cond (et g0 rfl) (fun cB1 => ?_) (fun cB1 => ?_)
      · skip
        
        have hw : (absV V).warmA a = false := by revert cB1; cases (absV V).warmA a <;> simp
        exact (by
          refine c_region ?_
          refine l_step (y_moveV (et (gS rfl (gS rfl g0)) rfl)) ?_
          refine l_step (y_loadB agg_25 sz_25 (et (gS rfl (gS rfl g0)) rfl) (by rw [List.size_toArray, length_bL, length_be]) (at1B k2)) ?_
          refine l_eff (e_callV cal_173 (aC (et (gS rfl g0) rfl) (aC (et g0 rfl) aN)) (v_warmAcct hT.vl ho a ha 1 (.inr ⟨hr, rfl⟩) hjr)) (fun v6 w6 h6 => ?_)
          obtain ⟨rfl, cl6, cs6, V6, t6, ok6, js6⟩ := h6
          replace k2 := k2.ch t6.go.ch (by intro hm; omega)
          replace hT := hT.trans t6
          replace U := U.cc t6.go.ch (by intro b hb; exact .inl trivial)
          refine l_nil ?_
          refine end0 rfl ?_
          exact ⟨rfl, _, _, _, hT, ok6, js6⟩)
      · skip
        
        have hw : (absV V).warmA a = true := by revert cB1; cases (absV V).warmA a <;> simp
        refine c_skip ?_
        refine end0 rfl ?_
        exact ⟨rfl, _, _, _, hT, ho, JS.same (wrm_same hw) _ _ _ _ _⟩))
end Go.Proofs.YgvaawGreat
