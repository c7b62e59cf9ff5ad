import Derived.Test.YgvaawGreatS1
set_option maxRecDepth 100000
set_option maxHeartbeats 4000000
set_option linter.unusedSimpArgs false
set_option linter.unusedVariables false
namespace Go.Proofs.YgvaawGreat
open Go
theorem kcs_sub {cs : Array Value} {o i m : Nat} {l : List SK} (h : RowIn cs o (kcs l)) : RowIn cs (o + i * 6) (kcs ((l.drop i).take m)) := fun j v hv => by
  have hj := (List.getElem?_eq_some_iff.1 hv).1
  rw [kcs_len, List.length_take, List.length_drop] at hj
  have e : kcs l = kcs (l.take i) ++ (kcs ((l.drop i).take m) ++ kcs ((l.drop i).drop m)) := by rw [← kcs_app, ← kcs_app, List.take_append_drop, List.take_append_drop]
  have hl : (kcs (l.take i)).length = i * 6 := by rw [kcs_len, List.length_take]; omega
  have := h (i * 6 + j) v (by rw [e, List.getElem?_append_right (by omega), hl, show i * 6 + j - i * 6 = j by omega, List.getElem?_append_left (by rw [kcs_len, List.length_take, List.length_drop]; omega)]; exact hv)
  rw [show o + i * 6 + j = o + (i * 6 + j) by omega]
  exact this
theorem spl_kcs {co : Array Value} : ∀ (E D : List SK) {k : Nat}, D.length = k → 6 * (k + E.length) ≤ co.size → spl (spl co 0 (kcs D)) (k * 6) (kcs E) = spl co 0 (kcs (D ++ E))
  | E, D, k, hk, hz => by
    have h1 : (kcs D).length = 6 * k := by rw [kcs_len, hk]
    have h2 : (kcs E).length = 6 * E.length := kcs_len E
    have h3 : (kcs (D ++ E)).length = 6 * k + 6 * E.length := by rw [kcs_app, List.length_append, h1, h2]
    apply Array.ext_getElem?
    intro i
    by_cases c1 : i < k * 6
    · rw [get_spl_out (by rw [size_spl]; omega) (by omega)]
      have e1 : (kcs D)[i]? = some ((kcs D)[i]'(by omega)) := List.getElem?_eq_getElem _
      have e2 : (kcs (D ++ E))[i]? = some ((kcs D)[i]'(by omega)) := by rw [kcs_app, List.getElem?_append_left (by omega)]; exact e1
      have g1 := get_spl_in (cs := co) (o := 0) (by omega) e1
      have g2 := get_spl_in (cs := co) (o := 0) (by omega) e2
      rw [Nat.zero_add] at g1 g2
      rw [g1, g2]
    · by_cases c2 : i < k * 6 + 6 * E.length
      · have e1 : (kcs E)[i - k * 6]? = some ((kcs E)[i - k * 6]'(by omega)) := List.getElem?_eq_getElem _
        have e2 : (kcs (D ++ E))[i]? = some ((kcs E)[i - k * 6]'(by omega)) := by rw [kcs_app, List.getElem?_append_right (by omega), h1, show i - 6 * k = i - k * 6 by omega]; exact e1
        have g1 := get_spl_in (cs := spl co 0 (kcs D)) (o := k * 6) (by rw [size_spl]; omega) e1
        have g2 := get_spl_in (cs := co) (o := 0) (by omega) e2
        rw [show k * 6 + (i - k * 6) = i by omega] at g1
        rw [Nat.zero_add] at g2
        rw [g1, g2]
      · rw [get_spl_out (by rw [size_spl]; omega) (by omega), get_spl_out (by omega) (by omega), get_spl_out (by omega) (by omega)]
theorem row_spl0 {co : Array Value} {l : List Value} (h : l.length ≤ co.size) : RowIn (spl co 0 l) 0 l := fun i v hv => get_spl_in (by omega) hv
theorem spl_nil9 (co : Array Value) : spl co 0 (kcs []) = co := rfl
structure TwoB (b1 b2 bf bt : Nat) : Prop where
  eq : (bf = b1 ∧ bt = b2) ∨ (bf = b2 ∧ bt = b1)
theorem TwoB.swap {b1 b2 bf bt : Nat} (h : TwoB b1 b2 bf bt) : TwoB b1 b2 bt bf := ⟨h.eq.elim (fun h => .inr ⟨h.2, h.1⟩) (fun h => .inl ⟨h.2, h.1⟩)⟩
theorem mul2_mono {a b w : Nat} (h : a ≤ b) : a * (2 * w) ≤ b * (2 * w) := Nat.mul_le_mul_right _ h
theorem v_sorted {w : World} {b1 c1 : Nat} {C1 : Array Value} {L0 : List SK} (kf : Blk w b1 C1) (hr0 : RowIn C1 0 (kcs L0)) (hok0 : ∀ x ∈ L0, SKOk x) (hz0 : 6 * L0.length ≤ C1.size) (hc0 : L0.length ≤ c1) (hn0 : 0 < L0.length) (hln : L0.length < 100000) :
    Ret 75 [.slice (some ⟨b1, 0, none⟩) L0.length c1] w (fun v w' => ∃ L bf cf Cf, v = .slice (some ⟨bf, 0, none⟩) L0.length cf ∧ L.Perm L0 ∧ SrtK L ∧ Blk w' bf Cf ∧ RowIn Cf 0 (kcs L) ∧ L0.length ≤ cf ∧ cf ≤ c1 ∧ (bf = b1 ∨ w.heap.size ≤ bf) ∧ Ch (fun b => b = b1 ∨ w.heap.size ≤ b) w w') := by
  have hlt1 := kf.lt
  refine enter (n := 59) Hvaa.func75 rfl rfl (Nat.le_of_ble_eq_true rfl) ?_
  have U : Ch (fun b => b = b1 ∨ w.heap.size ≤ b) w w := Ch.refl _ w
  refine c_seq (fun K1 hK1 => ?_)
  exact (by
    refine c_region ?_
    refine l_step y_assignC ?_
    refine l_nil ?_
    refine hK1 _ _ ?_
    refine fg1 0 (gS rfl g0) (fun g => ?_)
    refine c_seq (fun K2 hK2 => ?_)
    exact (by
      refine c_region ?_
      refine l_step (y_moveV (et g0 rfl)) ?_
      refine l_step (y_assignV (et g0 rfl)) ?_
      refine l_nil ?_
      refine hK2 _ _ ?_
      refine fg2 0 3 (gS rfl (gS rfl g0)) g0 (fun g => ?_)
      refine c_seq (fun K3 hK3 => ?_)
      exact (by
        refine c_region ?_
        refine l_step (y_moveV (et (gS rfl g0) rfl)) ?_
        refine l_step (y_len Hvaa.underlying165 (et g0 rfl)) ?_
        refine l_eff (e_make Hvaa.underlying165 sz_170 zr_170 by_170 (et g0 rfl) (et g0 rfl) (by omega) (by omega)) (fun v4 w4 h4 => ?_)
        obtain ⟨b4, rfl, n4⟩ := h4
        have f4 : w.heap.size ≤ b4 := Nat.le_trans U.size n4.fresh
        replace kf := kf.up n4.up
        replace U := U.tr n4.up
        have k4 := n4.blk
        obtain ⟨Ct0, hct, kt⟩ : ∃ C : Array Value, C.size = 6 * L0.length ∧ Blk w4 b4 C := ⟨_, by rw [size_made]; omega, k4⟩
        have hb2 := n4.fresh
        have hlt2 := kt.lt
        refine l_step (y_assignV (et g0 rfl)) ?_
        refine l_nil ?_
        refine hK3 _ _ ?_
        refine fg2 3 4 (gS rfl (gS rfl (gS rfl (gS rfl g0)))) g0 (fun g => ?_)
        refine c_seq (fun K5 hK5 => ?_)
        refine c_seq (fun K6 hK6 => ?_)
        exact (by
          refine c_region ?_
          refine l_step y_assignC ?_
          refine l_nil ?_
          refine hK6 _ _ ?_
          refine c_block (fun Q7 hQ7 => ?_)
          refine fg3 3 4 5 (gS rfl (gS rfl g0)) (gS rfl g0) g0 (fun g => ?_)
          refine c_loop (fun k_ s_ W8 => ∃ (g : Nat → Value) (bf bt cf ct wd : Nat) (Cf Ct : Array Value) (L : List SK), s_ = (upd (upd (upd g 3 (.slice (some ⟨bf, 0, none⟩) L0.length cf)) 4 (.slice (some ⟨bt, 0, none⟩) L0.length ct)) 5 (.int .i64 (wd : Nat))) ∧ L0.length - wd = k_ ∧ (TwoB b1 b4 bf bt) ∧ (Blk W8 bf Cf) ∧ (Blk W8 bt Ct) ∧ (RowIn Cf 0 (kcs L)) ∧ (L.Perm L0) ∧ (RunS wd L) ∧ (6 * L0.length ≤ Cf.size) ∧ (6 * L0.length ≤ Ct.size) ∧ (L0.length ≤ cf) ∧ (L0.length ≤ ct) ∧ (cf ≤ c1 ∧ ct ≤ c1) ∧ (0 < wd) ∧ (wd ≤ 2 * L0.length) ∧ (Ch (fun b => b = b1 ∨ w.heap.size ≤ b) w W8)) (L0.length - (1)) ?_ ?_
          · exact ⟨g, b1, b4, c1, _, 1, C1, _, L0, rfl, rfl, ⟨.inl ⟨rfl, rfl⟩⟩, kf, kt, hr0, List.Perm.refl _, run_one _, hz0, by rw [hct]; exact Nat.le_refl _, hc0, Nat.le_refl _, ⟨Nat.le_refl _, hc0⟩, by decide, by omega, U⟩
          · skip
            intro k_ s_ W8 hI K8 hK8
            obtain ⟨g, bf, bt, cf, ct, wd, Cf, Ct, L, rfl, rfl, htb, kf, kt, hr, hL, hrun, hz1, hz2, hc1, hc2, hcm, hw0, hw1, hU⟩ := hI
            have U : Ch (fun b => b = b1 ∨ w.heap.size ≤ b) w W8 := hU
            have hll : L.length = L0.length := hL.length_eq
            have hne : bt ≠ bf := by have := htb.eq; omega
            have hok : ∀ x ∈ L, SKOk x := fun x hx => hok0 x (hL.mem_iff.1 hx)
            refine c_seq (fun K9 hK9 => ?_)
            refine c_seq (fun K10 hK10 => ?_)
            exact (by
              refine c_region ?_
              refine l_step (y_moveV (et g0 rfl)) ?_
              refine l_step (y_moveV (et (gS rfl (gS rfl (gS rfl g0))) rfl)) ?_
              refine l_step (y_len Hvaa.underlying165 (et g0 rfl)) ?_
              refine l_step (y_lss (et (gS rfl (gS rfl g0)) rfl) (et g0 rfl)) ?_
              refine l_nil ?_
              refine hK10 _ _ ?_
              refine fg4 3 4 5 16 (gS rfl (gS rfl (gS rfl (gS rfl (gS rfl (gS rfl g0)))))) (gS rfl (gS rfl (gS rfl (gS rfl (gS rfl g0))))) (gS rfl (gS rfl (gS rfl (gS rfl g0)))) g0 (fun g => ?_)
              refine c_cond (et g0 rfl) (fun cB1 => ?_) (fun cB1 => ?_)
              · skip
                
                have hlt : wd < L0.length := by have := of_decide_eq_true cB1; omega
                refine c_skip ?_
                refine hK9 _ _ ?_
                refine fg3 3 4 5 (gS rfl (gS rfl (gS rfl g0))) (gS rfl (gS rfl g0)) (gS rfl g0) (fun g => ?_)
                refine c_seq (fun K12 hK12 => ?_)
                refine c_block (fun Q13 hQ13 => ?_)
                refine c_seq (fun K14 hK14 => ?_)
                refine c_seq (fun K15 hK15 => ?_)
                exact (by
                  refine c_region ?_
                  refine l_step y_assignC ?_
                  refine l_nil ?_
                  refine hK15 _ _ ?_
                  refine c_block (fun Q16 hQ16 => ?_)
                  refine fg4 3 4 5 6 (gS rfl (gS rfl (gS rfl g0))) (gS rfl (gS rfl g0)) (gS rfl g0) g0 (fun g => ?_)
                  refine c_loop (fun k_ s_ W17 => ∃ (g : Nat → Value) (m lo : Nat), s_ = (upd (upd (upd (upd g 3 (.slice (some ⟨bf, 0, none⟩) L0.length cf)) 4 (.slice (some ⟨bt, 0, none⟩) L0.length ct)) 5 (.int .i64 (wd : Nat))) 6 (.int .i64 (lo : Nat))) ∧ L0.length - lo = k_ ∧ (lo = m * (2 * wd)) ∧ (m = 0 ∨ (m - 1) * (2 * wd) < L0.length) ∧ (Blk W17 bf Cf) ∧ (Blk W17 bt (spl Ct 0 (kcs (passM wd L m)))) ∧ (Ch (fun b => b = b1 ∨ w.heap.size ≤ b) w W17)) (L0.length - (0)) ?_ ?_
                  · exact ⟨g, 0, 0, rfl, rfl, (Nat.zero_mul _).symm, .inl rfl, kf, kt, U⟩
                  · skip
                    intro k_ s_ W17 hI K17 hK17
                    obtain ⟨g, m, lo, rfl, rfl, hlo, hm, kf, kt, hU⟩ := hI
                    have U : Ch (fun b => b = b1 ∨ w.heap.size ≤ b) w W17 := hU
                    refine c_seq (fun K18 hK18 => ?_)
                    refine c_seq (fun K19 hK19 => ?_)
                    exact (by
                      refine c_region ?_
                      refine l_step (y_moveV (et g0 rfl)) ?_
                      refine l_step (y_moveV (et (gS rfl (gS rfl (gS rfl (gS rfl g0)))) rfl)) ?_
                      refine l_step (y_len Hvaa.underlying165 (et g0 rfl)) ?_
                      refine l_step (y_lss (et (gS rfl (gS rfl g0)) rfl) (et g0 rfl)) ?_
                      refine l_nil ?_
                      refine hK19 _ _ ?_
                      refine fg5 3 4 5 6 22 (gS rfl (gS rfl (gS rfl (gS rfl (gS rfl (gS rfl (gS rfl g0))))))) (gS rfl (gS rfl (gS rfl (gS rfl (gS rfl (gS rfl g0)))))) (gS rfl (gS rfl (gS rfl (gS rfl (gS rfl g0))))) (gS rfl (gS rfl (gS rfl (gS rfl g0)))) g0 (fun g => ?_)
                      refine c_cond (et g0 rfl) (fun cB2 => ?_) (fun cB2 => ?_)
                      · skip
                        
                        have hltl : lo < L0.length := by have := of_decide_eq_true cB2; omega
                        have hpl : (passM wd L m).length = lo := by rw [pass_len, ← hlo, hll]; omega
                        refine c_skip ?_
                        refine hK18 _ _ ?_
                        refine fg4 3 4 5 6 (gS rfl (gS rfl (gS rfl (gS rfl g0)))) (gS rfl (gS rfl (gS rfl g0))) (gS rfl (gS rfl g0)) (gS rfl g0) (fun g => ?_)
                        refine c_seq (fun K21 hK21 => ?_)
                        refine c_block (fun Q22 hQ22 => ?_)
                        refine c_seq (fun K23 hK23 => ?_)
                        exact (by
                          refine c_region ?_
                          refine l_step (y_moveV (et g0 rfl)) ?_
                          refine l_step (y_moveV (et (gS rfl (gS rfl g0)) rfl)) ?_
                          refine l_step (y_add (et (gS rfl g0) rfl) (et g0 rfl) (addIN ?_)) ?_
                          omega
                          refine l_step (y_moveV (et (gS rfl (gS rfl (gS rfl (gS rfl (gS rfl (gS rfl g0)))))) rfl)) ?_
                          refine l_step (y_len Hvaa.underlying165 (et g0 rfl)) ?_
                          refine l_step (y_minN (et (gS rfl (gS rfl g0)) rfl) (et g0 rfl)) ?_
                          refine l_step (y_assignV (et g0 rfl)) ?_
                          refine l_nil ?_
                          refine hK23 _ _ ?_
                          refine fg5 3 4 5 6 7 (gS rfl (gS rfl (gS rfl (gS rfl (gS rfl (gS rfl (gS rfl (gS rfl (gS rfl (gS rfl g0)))))))))) (gS rfl (gS rfl (gS rfl (gS rfl (gS rfl (gS rfl (gS rfl (gS rfl (gS rfl g0))))))))) (gS rfl (gS rfl (gS rfl (gS rfl (gS rfl (gS rfl (gS rfl (gS rfl g0)))))))) (gS rfl (gS rfl (gS rfl (gS rfl (gS rfl (gS rfl (gS rfl g0))))))) g0 (fun g => ?_)
                          refine c_seq (fun K24 hK24 => ?_)
                          exact (by
                            refine c_region ?_
                            refine l_step (y_moveV (et (gS rfl g0) rfl)) ?_
                            refine l_step (y_moveV (et (gS rfl (gS rfl (gS rfl g0))) rfl)) ?_
                            refine l_step (y_mul rfl (et g0 rfl) (mulIN (x := 2) ?_)) ?_
                            omega
                            refine l_step (y_add (et (gS rfl (gS rfl g0)) rfl) (et g0 rfl) (addIN ?_)) ?_
                            omega
                            refine l_step (y_moveV (et (gS rfl (gS rfl (gS rfl (gS rfl (gS rfl (gS rfl (gS rfl (gS rfl g0)))))))) rfl)) ?_
                            refine l_step (y_len Hvaa.underlying165 (et g0 rfl)) ?_
                            refine l_step (y_minN (et (gS rfl (gS rfl g0)) rfl) (et g0 rfl)) ?_
                            refine l_step (y_assignV (et g0 rfl)) ?_
                            refine l_nil ?_
                            refine hK24 _ _ ?_
                            refine fg6 3 4 5 6 7 8 (gS rfl (gS rfl (gS rfl (gS rfl (gS rfl (gS rfl (gS rfl (gS rfl (gS rfl (gS rfl (gS rfl (gS rfl g0)))))))))))) (gS rfl (gS rfl (gS rfl (gS rfl (gS rfl (gS rfl (gS rfl (gS rfl (gS rfl (gS rfl (gS rfl g0))))))))))) (gS rfl (gS rfl (gS rfl (gS rfl (gS rfl (gS rfl (gS rfl (gS rfl (gS rfl (gS rfl g0)))))))))) (gS rfl (gS rfl (gS rfl (gS rfl (gS rfl (gS rfl (gS rfl (gS rfl (gS rfl g0))))))))) (gS rfl (gS rfl (gS rfl (gS rfl (gS rfl (gS rfl (gS rfl (gS rfl g0)))))))) g0 (fun g => ?_)
                            refine c_draw Up 15 [(0, true), (1, true), (2, true), (3, true), (4, true), (5, true), (6, true), (7, true), (8, true), (9, true), (10, true), (11, true), (12, true), (13, true), (14, true), (15, false)] (by kernel_rfl) (fun w25 hu => ⟨Up.refl _, ?_⟩)
                            replace kf := kf.up hu
                            replace kt := kt.up hu
                            replace U := U.tr hu
                            have SU := Up.refl w25
                            refine p_step (by exact rfl) (y_moveV (et (gS rfl (gS rfl (gS rfl (gS rfl g0)))) rfl)) ?_
                            refine p_step (by exact rfl) (y_moveV (et (gS rfl (gS rfl (gS rfl g0))) rfl)) ?_
                            refine p_step (by exact rfl) (y_moveV (et (gS rfl (gS rfl g0)) rfl)) ?_
                            refine p_step (by exact rfl) (y_moveV (et (gS rfl (gS rfl (gS rfl g0))) rfl)) ?_
                            have hxl : ((L.drop lo).take wd).length = min (lo + wd) L0.length - lo := by rw [List.length_take, List.length_drop, hll]; omega
                            have hyl : ((L.drop (lo + wd)).take wd).length = min (lo + 2 * wd) L0.length - min (lo + wd) L0.length := by rw [List.length_take, List.length_drop, hll]; omega
                            refine p_step (by exact rfl) ((y_slS111 Hvaa.underlying165 sz_170 (et (gS rfl (gS rfl (gS rfl g0))) rfl) (et (gS rfl (gS rfl g0)) rfl) (et (gS rfl g0) rfl) (et g0 rfl) ?_ ?_ ?_ ?_ ?_ ?_ ?_).to (show Value.slice (some ⟨bt, 0 + ((lo : Nat) : Int).toNat * 6, none⟩) (((min (lo + 2 * wd) L0.length : Nat) : Int).toNat - ((lo : Nat) : Int).toNat) (((min (lo + 2 * wd) L0.length : Nat) : Int).toNat - ((lo : Nat) : Int).toNat) = .slice (some ⟨bt, lo * 6, none⟩) (((L.drop lo).take wd).length + ((L.drop (lo + wd)).take wd).length) (min (lo + 2 * wd) L0.length - lo) by simp only [Int.toNat_natCast, Nat.zero_add]; rw [hxl, hyl]; congr 1; omega)) ?_
                            omega
                            omega
                            omega
                            omega
                            omega
                            omega
                            omega
                            exact (by
                              refine p_step (by exact rfl) (y_moveV (et (gS rfl (gS rfl (gS rfl (gS rfl (gS rfl (gS rfl (gS rfl (gS rfl (gS rfl (gS rfl g0)))))))))) rfl)) ?_
                              refine p_step (by exact rfl) (y_moveV (et (gS rfl (gS rfl (gS rfl (gS rfl (gS rfl (gS rfl (gS rfl (gS rfl g0)))))))) rfl)) ?_
                              refine p_step (by exact rfl) (y_moveV (et (gS rfl (gS rfl (gS rfl (gS rfl (gS rfl (gS rfl (gS rfl (gS rfl g0)))))))) rfl)) ?_
                              refine p_step (by exact rfl) (y_moveV (et (gS rfl (gS rfl (gS rfl (gS rfl (gS rfl (gS rfl (gS rfl (gS rfl (gS rfl g0))))))))) rfl)) ?_
                              refine p_step (by exact rfl) ((y_slS111 Hvaa.underlying165 sz_170 (et (gS rfl (gS rfl (gS rfl g0))) rfl) (et (gS rfl (gS rfl g0)) rfl) (et (gS rfl g0) rfl) (et g0 rfl) ?_ ?_ ?_ ?_ ?_ ?_ ?_).to (show Value.slice (some ⟨bf, 0 + ((lo : Nat) : Int).toNat * 6, none⟩) (((min (lo + wd) L0.length : Nat) : Int).toNat - ((lo : Nat) : Int).toNat) (((min (lo + wd) L0.length : Nat) : Int).toNat - ((lo : Nat) : Int).toNat) = .slice (some ⟨bf, lo * 6, none⟩) ((L.drop lo).take wd).length (min (lo + wd) L0.length - lo) by simp only [Int.toNat_natCast, Nat.zero_add]; rw [hxl])) ?_
                              omega
                              omega
                              omega
                              omega
                              omega
                              omega
                              omega
                              refine p_step (by exact rfl) (y_moveV (et (gS rfl (gS rfl (gS rfl (gS rfl (gS rfl (gS rfl (gS rfl (gS rfl (gS rfl (gS rfl (gS rfl (gS rfl (gS rfl (gS rfl (gS rfl g0))))))))))))))) rfl)) ?_
                              refine p_step (by exact rfl) (y_moveV (et (gS rfl (gS rfl (gS rfl (gS rfl (gS rfl (gS rfl (gS rfl (gS rfl (gS rfl (gS rfl (gS rfl (gS rfl g0)))))))))))) rfl)) ?_
                              refine p_step (by exact rfl) (y_moveV (et (gS rfl (gS rfl (gS rfl (gS rfl (gS rfl (gS rfl (gS rfl (gS rfl (gS rfl (gS rfl (gS rfl (gS rfl g0)))))))))))) rfl)) ?_
                              refine p_step (by exact rfl) (y_moveV (et (gS rfl (gS rfl (gS rfl (gS rfl (gS rfl (gS rfl (gS rfl (gS rfl (gS rfl (gS rfl (gS rfl (gS rfl (gS rfl g0))))))))))))) rfl)) ?_
                              refine p_step (by exact rfl) ((y_slS111g Hvaa.underlying165 sz_170 (et (gS rfl (gS rfl (gS rfl g0))) rfl) (et (gS rfl (gS rfl g0)) rfl) (et (gS rfl g0) rfl) (et g0 rfl) ?_ ?_ ?_ ?_ ?_ ?_).to (show Value.slice (some (if ((min (lo + 2 * wd) L0.length : Nat) : Int).toNat = ((min (lo + wd) L0.length : Nat) : Int).toNat then (⟨bf, 0, none⟩ : Addr) else ⟨bf, 0 + ((min (lo + wd) L0.length : Nat) : Int).toNat * 6, none⟩)) (((min (lo + 2 * wd) L0.length : Nat) : Int).toNat - ((min (lo + wd) L0.length : Nat) : Int).toNat) (((min (lo + 2 * wd) L0.length : Nat) : Int).toNat - ((min (lo + wd) L0.length : Nat) : Int).toNat) = .slice (some (if min (lo + 2 * wd) L0.length = min (lo + wd) L0.length then (⟨bf, 0, none⟩ : Addr) else ⟨bf, min (lo + wd) L0.length * 6, none⟩)) ((L.drop (lo + wd)).take wd).length (min (lo + 2 * wd) L0.length - min (lo + wd) L0.length) by simp only [Int.toNat_natCast, Nat.zero_add]; rw [hyl])) ?_
                              omega
                              omega
                              omega
                              omega
                              omega
                              omega
                              have hx9 : RowIn Cf (lo * 6) (kcs ((L.drop lo).take wd)) := by have h9 := kcs_sub (i := lo) (m := wd) hr; rw [Nat.zero_add] at h9; exact h9
                              have hmy : ((L.drop (lo + wd)).take wd) ≠ [] → min (lo + wd) L0.length = lo + wd ∧ min (lo + 2 * wd) L0.length ≠ min (lo + wd) L0.length := fun h9 => by
                                have h8 : 0 < ((L.drop (lo + wd)).take wd).length := List.length_pos_iff.2 h9
                                rw [hyl] at h8
                                omega
                              have hy9 : RowIn Cf (min (lo + wd) L0.length * 6) (kcs ((L.drop (lo + wd)).take wd)) := by
                                by_cases h9 : ((L.drop (lo + wd)).take wd) = []
                                · rw [h9]
                                  intro i v hv
                                  cases hv
                                · rw [(hmy h9).1]
                                  have h8 := kcs_sub (i := lo + wd) (m := wd) hr
                                  rw [Nat.zero_add] at h8
                                  exact h8
                              refine p_eff (by exact rfl) (e_callV cal_157 (aC (et (gS rfl (gS rfl (gS rfl (gS rfl (gS rfl (gS rfl (gS rfl (gS rfl (gS rfl (gS rfl g0)))))))))) rfl) (aC (et (gS rfl (gS rfl (gS rfl (gS rfl (gS rfl g0))))) rfl) (aC (et g0 rfl) aN))) (v_merge (bo := bt) (bf := bf) (oo := lo * 6) (oa := lo * 6) (ob := min (lo + wd) L0.length * 6) (xs := ((L.drop lo).take wd)) (ys := ((L.drop (lo + wd)).take wd)) kt kf hne hx9 hy9 (fun _ => rfl) (fun h9 => by rw [if_neg (hmy h9).2]) (by rw [size_spl, hxl, hyl]; omega) (fun x hx => hok x (List.mem_of_mem_drop (List.mem_of_mem_take hx))) (fun x hx => hok x (List.mem_of_mem_drop (List.mem_of_mem_take hx))) (by rw [hxl, hyl]; omega))) (fun v26 w26 h26 => ?_)
                              obtain ⟨rfl, cc26, kk26⟩ := h26
                              replace kf := kf.ch cc26 (by omega)
                              replace kt := kk26
                              replace U := U.cc cc26 (by intro b hb; have := htb.eq; first | exact .inl (by omega) | exact .inr (by omega) | omega)
                              refine ⟨.inl rfl, ?_⟩
                              replace kt : Blk w26 bt (spl Ct 0 (kcs (passM wd L (m + 1)))) := by
                                have e9 : passM wd L (m + 1) = passM wd L m ++ List.merge ((L.drop lo).take wd) ((L.drop (lo + wd)).take wd) leK := by
                                  show passM wd L m ++ chk wd L m = _
                                  unfold chk
                                  rw [← hlo]
                                rw [e9, ← spl_kcs _ _ hpl (by rw [List.length_merge, hxl, hyl]; omega)]
                                exact kt
                              refine p_nil ?_
                              refine hQ22 _ _ _ (in_normal ?_)
                              refine hK21 _ _ ?_
                              refine fg4 3 4 5 6 (gS rfl (gS rfl (gS rfl (gS rfl (gS rfl (gS rfl (gS rfl (gS rfl (gS rfl (gS rfl (gS rfl (gS rfl (gS rfl (gS rfl (gS rfl (gS rfl (gS rfl (gS rfl (gS rfl (gS rfl (gS rfl g0))))))))))))))))))))) (gS rfl (gS rfl (gS rfl (gS rfl (gS rfl (gS rfl (gS rfl (gS rfl (gS rfl (gS rfl (gS rfl (gS rfl (gS rfl (gS rfl (gS rfl (gS rfl (gS rfl (gS rfl (gS rfl (gS rfl g0)))))))))))))))))))) (gS rfl (gS rfl (gS rfl (gS rfl (gS rfl (gS rfl (gS rfl (gS rfl (gS rfl (gS rfl (gS rfl (gS rfl (gS rfl (gS rfl (gS rfl (gS rfl (gS rfl (gS rfl (gS rfl g0))))))))))))))))))) (gS rfl (gS rfl (gS rfl (gS rfl (gS rfl (gS rfl (gS rfl (gS rfl (gS rfl (gS rfl (gS rfl (gS rfl (gS rfl (gS rfl (gS rfl (gS rfl (gS rfl (gS rfl g0)))))))))))))))))) (fun g => ?_)
                              refine c_region ?_
                              exact (by
                                refine l_step (y_moveV (et g0 rfl)) ?_
                                refine l_step (y_moveV (et (gS rfl (gS rfl g0)) rfl)) ?_
                                refine l_step (y_mul rfl (et g0 rfl) (mulIN (x := 2) ?_)) ?_
                                omega
                                refine l_step (y_add (et (gS rfl (gS rfl g0)) rfl) (et g0 rfl) (addIN ?_)) ?_
                                omega
                                refine l_step (y_assignV (et g0 rfl)) ?_
                                refine l_nil ?_
                                refine fK4 3 4 5 6 (gS rfl (gS rfl (gS rfl (gS rfl (gS rfl (gS rfl (gS rfl (gS rfl g0)))))))) (gS rfl (gS rfl (gS rfl (gS rfl (gS rfl (gS rfl (gS rfl g0))))))) (gS rfl (gS rfl (gS rfl (gS rfl (gS rfl (gS rfl g0)))))) g0 (fun g => ?_)
                                exact hK17 (L0.length - ((lo + 2 * wd))) _ _ (by omega) ⟨g, (m + 1), (lo + 2 * wd), rfl, rfl, by rw [hlo, Nat.add_mul, Nat.one_mul], .inr (by rw [Nat.add_sub_cancel, ← hlo]; exact hltl), kf, kt, U⟩))))
                      · skip
                        
                        have hltl : ¬ lo < L0.length := by have := of_decide_eq_false cB2; omega
                        have hpl : (passM wd L m).length = L0.length := by rw [pass_len, ← hlo, hll]; omega
                        have hp9 : (passM wd L m).Perm L := by
                          have h9 := pass_perm wd L m
                          rw [List.take_of_length_le (by rw [← hlo, hll]; omega)] at h9
                          exact h9
                        have hrun9 := pass_run hrun hw0 m (orI hm id (fun h9 => by rw [hll]; omega))
                        have hr9 : RowIn (spl Ct 0 (kcs (passM wd L m))) 0 (kcs (passM wd L m)) := row_spl0 (by rw [kcs_len, hpl]; exact hz2)
                        refine c_exit ?_
                        refine hQ16 _ _ _ (in_exit ?_)
                        refine hK14 _ _ ?_
                        refine fg3 3 4 5 (gS rfl (gS rfl (gS rfl (gS rfl g0)))) (gS rfl (gS rfl (gS rfl g0))) (gS rfl (gS rfl g0)) (fun g => ?_)
                        exact (by
                          refine c_region ?_
                          refine l_step (y_moveV (et (gS rfl g0) rfl)) ?_
                          refine l_step (y_moveV (et (gS rfl (gS rfl (gS rfl g0))) rfl)) ?_
                          refine l_step (y_assignV (et (gS rfl g0) rfl)) ?_
                          refine l_step (y_assignV (et (gS rfl g0) rfl)) ?_
                          refine l_nil ?_
                          refine hQ13 _ _ _ (in_normal ?_)
                          refine hK12 _ _ ?_
                          refine fg3 3 4 5 (gS rfl g0) g0 (gS rfl (gS rfl (gS rfl (gS rfl g0)))) (fun g => ?_)
                          refine c_region ?_
                          refine l_step (y_moveV (et g0 rfl)) ?_
                          refine l_step (y_mul (et g0 rfl) rfl (mulIN (y := 2) ?_)) ?_
                          omega
                          refine l_step (y_assignV (et g0 rfl)) ?_
                          refine l_nil ?_
                          refine fK3 3 4 5 (gS rfl (gS rfl (gS rfl (gS rfl (gS rfl g0))))) (gS rfl (gS rfl (gS rfl (gS rfl g0)))) g0 (fun g => ?_)
                          exact hK8 (L0.length - ((wd * 2))) _ _ (by omega) ⟨g, bt, bf, ct, cf, (wd * 2), _, Cf, (passM wd L m), rfl, rfl, htb.swap, kt, kf, hr9, (hp9.trans hL), (Nat.mul_comm 2 wd ▸ hrun9), by rw [size_spl]; exact hz2, hz1, hc2, hc1, ⟨hcm.2, hcm.1⟩, by omega, by omega, U⟩)))
              · skip
                
                have hlt : L0.length ≤ wd := by have := of_decide_eq_false cB1; omega
                refine c_exit ?_
                refine hQ7 _ _ _ (in_exit ?_)
                refine hK5 _ _ ?_
                refine fg1 3 (gS rfl (gS rfl (gS rfl g0))) (fun g => ?_)
                refine c_seq (fun K27 hK27 => ?_)
                exact (by
                  refine c_region ?_
                  refine l_step (y_moveV (et g0 rfl)) ?_
                  refine l_step (y_assignV (et g0 rfl)) ?_
                  refine l_nil ?_
                  refine hK27 _ _ ?_
                  refine fg1 2 g0 (fun g => ?_)
                  refine c_ret ?_
                  repeat with_reducible refine then_ret ?_
                  refine ret1 rfl (res_tmp (et g0 rfl)) ?_
                  exact ⟨L, bf, cf, Cf, rfl, hL, run_all hrun (by rw [hll]; exact hlt), kf, hr, hc1, hcm.1, orI htb.eq (fun h => h.1) (fun h => by rw [h.1]; exact hb2), U⟩))))))
end Go.Proofs.YgvaawGreat
