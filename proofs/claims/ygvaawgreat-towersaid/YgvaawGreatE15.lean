import Derived.Test.YgvaawGreatQ1
import Derived.Test.YgvaawGreatO4
import Derived.Test.YgvaawGreatP11
set_option maxRecDepth 100000
set_option maxHeartbeats 4000000
set_option linter.unusedSimpArgs false
set_option linter.unusedVariables false
namespace Go.Proofs.YgvaawGreat
open Go
def evi (i : Nat) : EV := { ev0 with atb := fun p => if p < i then -1 else 0, stb := fun p => if p < i then -1 else 0 }
theorem evi_zero : evi 0 = ev0 := by
  unfold evi ev0
  simp
theorem upd_neg (i : Nat) : updT (fun p => if p < i then (-1 : Int) else 0) i (-1) = fun p => if p < i + 1 then (-1 : Int) else 0 := by
  funext p
  unfold updT
  by_cases h : p = i
  · rw [if_pos h, if_pos (by omega)]
  · rw [if_neg h]
    show (if p < i then (-1 : Int) else 0) = _
    by_cases h2 : p < i
    · rw [if_pos h2, if_pos (by omega)]
    · rw [if_neg h2, if_neg (by omega)]
theorem evi_next (i : Nat) : ({ ({ evi i with atb := updT (evi i).atb i (-1) } : EV) with stb := updT (evi i).stb i (-1) } : EV) = evi (i + 1) := by
  show (⟨_, _, _, _, _, _, _, _, _, _, _⟩ : EV) = ⟨_, _, _, _, _, _, _, _, _, _, _⟩
  congr 1
  · exact upd_neg i
  · exact upd_neg i
theorem set_at {α : Type} {l : List α} {i : Nat} {y : α} (h : i < l.length) : (l.set i y)[i]? = some y := by simp [h]
theorem wok_rise {l : List YAcct} (h : WOk l) : l.Pairwise La := by
  rw [List.pairwise_iff_getElem]
  have key : ∀ d i, (hd : i + d + 1 < l.length) → (l[i]'(by omega)).addr < l[i + d + 1].addr := by
    intro d
    induction d with
    | zero =>
      intro i hd
      have := h.rise (i + 1) (by omega) (by omega)
      exact this
    | succ d ih =>
      intro i hd
      have h1 := ih i (by omega)
      have h2 := h.rise (i + d + 1 + 1) (by omega) (by omega)
      exact Nat.lt_trans h1 h2
  intro i j hi hj hij
  have := key (j - i - 1) i (by omega)
  show _ < _
  have e : i + (j - i - 1) + 1 = j := by omega
  simp only [e] at this
  exact this
theorem wok_take {l : List YAcct} (h : WOk l) {i : Nat} (hi : i < l.length) : ∀ C ∈ l.take i, C.addr ≠ l[i].addr := by
  intro C hC
  obtain ⟨q, hq, e⟩ := List.mem_iff_getElem.1 hC
  have hql : q < i := by rw [List.length_take] at hq; omega
  rw [List.getElem_take] at e
  have h1 := List.pairwise_iff_getElem.1 (wok_rise h) q i (by omega) hi hql
  rw [e] at h1
  have h1 : C.addr < l[i].addr := h1
  omega
theorem slr_rise {s : List (Nat × Nat)} (h : SlR s s.length) : s.Pairwise Ls := by
  rw [List.pairwise_iff_getElem]
  have key : ∀ d i, (hd : i + d + 1 < s.length) → (s[i]'(by omega)).1 < s[i + d + 1].1 := by
    intro d
    induction d with
    | zero =>
      intro i hd
      exact (h (i + 1) (by omega) (by omega)).2 (by omega)
    | succ d ih =>
      intro i hd
      have h1 := ih i (by omega)
      have h2 := (h (i + d + 1 + 1) (by omega) (by omega)).2 (by omega)
      exact Nat.lt_trans h1 h2
  intro i j hi hj hij
  have := key (j - i - 1) i (by omega)
  show _ < _
  have e : i + (j - i - 1) + 1 = j := by omega
  simp only [e] at this
  exact this
theorem slr_take {s : List (Nat × Nat)} (h : SlR s s.length) {j : Nat} (hj : j < s.length) : ∀ z ∈ s.take j, z.1 ≠ s[j].1 := by
  intro z hz
  obtain ⟨q, hq, e⟩ := List.mem_iff_getElem.1 hz
  have hql : q < j := by rw [List.length_take] at hq; omega
  rw [List.getElem_take] at e
  have h1 := List.pairwise_iff_getElem.1 (slr_rise h) q j (by omega) hj hql
  rw [e] at h1
  have h1 : z.1 < s[j].1 := h1
  omega
theorem set3 {V : EV} {i : Nat} {a b c : EAcct} : ({ ({ ({ V with accts := V.accts.set i a } : EV) with accts := (V.accts.set i a).set i b } : EV) with accts := ((V.accts.set i a).set i b).set i c } : EV) = { V with accts := V.accts.set i c } := by
  rw [List.set_set, List.set_set]
theorem set2 {V : EV} {i : Nat} {a b : ESlot} : ({ ({ V with slots := V.slots.set i a } : EV) with slots := (V.slots.set i a).set i b } : EV) = { V with slots := V.slots.set i b } := by
  rw [List.set_set]
theorem es_v {x : ESlot} {v : Nat} : (esC x).take 5 ++ wL v ++ (esC x).drop (5 + (wL v).length) = esC { x with val := v } := rfl
theorem es_o {x : ESlot} {v : Nat} : (esC x).take 9 ++ wL v ++ (esC x).drop (9 + (wL v).length) = esC { x with orig := v } := rfl
theorem v_fill {w : World} {H : Store} {col : Nat → Nat} {bc : Nat} {cs : Array Value} (hV : VL w H col bc cs ev0) {l : List YAcct} {wa : Option Addr} {wc : Nat} (hW : LV P_oacct 55 H (.slice wa l.length wc) l) (hlm : l.length < 9223372036854775808) :
    Ret 28 [.pointer (some ⟨bc, 2435, none⟩), (.slice wa l.length wc)] w (fun v w' => ∃ t : Bool, v = .bool t ∧ (t = true ↔ WOk l) ∧ (t = false → Up w w') ∧ (t = true → ∃ H' col' cs' V', VT w H col bc cs w' H' col' cs' V' ∧ FV l V' 128)) := by
  have hT := VT.refl hV
  have hnw := hV.new
  have hcC := hV.colC
  have hfz := hV.fz
  refine enter (n := 129) Hvaa.func28 rfl rfl (Nat.le_of_ble_eq_true rfl) ?_
  have U : Ch (fun _ => True) w w := Ch.refl _ w
  refine c_seq (fun K1 hK1 => ?_)
  exact (by
    refine c_region ?_
    refine l_step y_assignC ?_
    refine l_nil ?_
    refine hK1 _ _ ?_
    refine fg2 1 0 (gS rfl (gS rfl g0)) (gS rfl g0) (fun g => ?_)
    refine c_seq (fun K2 hK2 => ?_)
    refine c_seq (fun K3 hK3 => ?_)
    exact (by
      refine c_region ?_
      refine l_step (y_moveV (et (gS rfl g0) rfl)) ?_
      refine l_eff (e_callV cal_30 (aC (et g0 rfl) aN) (obs_WorldOK hT.vl.fz hW hlm)) (fun v4 w4 h4 => ?_)
      obtain ⟨t9, rfl, ht9, u4⟩ := h4
      replace hT := hT.up u4
      replace U := U.tr u4
      refine l_step (y_not (et g0 rfl)) ?_
      refine l_nil ?_
      refine hK3 _ _ ?_
      refine fg3 1 0 15 (gS rfl (gS rfl (gS rfl (gS rfl g0)))) (gS rfl (gS rfl (gS rfl g0))) g0 (fun g => ?_)
      refine c_cond (et g0 rfl) (fun cB1 => ?_) (fun cB1 => ?_)
      · skip
        
        have hn : ¬ WOk l := fun h9 => by have h8 := ht9.2 h9; rw [h8] at cB1; cases cB1
        have uU := u4
        refine c_seq (fun K6 hK6 => ?_)
        exact (by
          refine c_region ?_
          refine l_step y_assignC ?_
          refine l_nil ?_
          refine hK6 _ _ ?_
          refine fg1 4 g0 (fun g => ?_)
          refine c_ret ?_
          repeat with_reducible refine then_ret ?_
          refine ret1 rfl (res_tmp (et g0 rfl)) ?_
          exact ⟨false, rfl, ⟨fun h9 => (by cases h9), fun h9 => absurd h9 hn⟩, fun _ => uU, fun h9 => (by cases h9)⟩)
      · skip
        
        have hok : WOk l := ht9.1 (by simpa using cB1)
        have hlen := hok.len
        refine c_skip ?_
        refine hK2 _ _ ?_
        refine fg2 1 0 (gS rfl (gS rfl g0)) (gS rfl g0) (fun g => ?_)
        refine c_seq (fun K7 hK7 => ?_)
        refine c_seq (fun K8 hK8 => ?_)
        exact (by
          refine c_region ?_
          refine l_step y_moveC ?_
          refine l_nil ?_
          refine hK8 _ _ ?_
          refine c_block (fun Q9 hQ9 => ?_)
          refine fg3 0 1 16 (gS rfl g0) (gS rfl (gS rfl g0)) g0 (fun g => ?_)
          refine c_loop (fun k_ s_ W10 => ∃ (g : Nat → Value) (cs1 : Array Value) (i : Nat), s_ = (upd (upd (upd g 0 (.pointer (some ⟨bc, 2435, none⟩))) 1 (.slice wa l.length wc)) 16 (.int .i64 (i : Nat))) ∧ 4096 - i = k_ ∧ (i ≤ 4096) ∧ (VT w H col bc cs W10 H col cs1 (evi i))) (4096 - (0)) ?_ ?_
          · exact ⟨g, _, 0, rfl, rfl, Nat.zero_le _, by rw [evi_zero]; exact hT⟩
          · skip
            intro k_ s_ W10 hI K10 hK10
            obtain ⟨g, cs1, i, rfl, rfl, hi, hT⟩ := hI
            have U : Ch (fun _ => True) w W10 := hT.go.ch.mono (fun _ _ _ => trivial)
            have hcC := hT.vl.colC
            have hml : (evi i).marks.length ≤ 16384 := Nat.zero_le _
            refine c_seq (fun K11 hK11 => ?_)
            exact (by
              refine c_region ?_
              refine l_step (y_lss (et g0 rfl) rfl) ?_
              refine l_nil ?_
              refine hK11 _ _ ?_
              refine c_seq (fun K12 hK12 => ?_)
              refine c_cond (et g0 rfl) (fun cB2 => ?_) (fun cB2 => ?_)
              · skip
                
                have hil : i < 4096 := by have := of_decide_eq_true cB2; omega
                refine c_skip ?_
                refine hK12 _ _ ?_
                refine fg3 0 1 16 (gS rfl (gS rfl (gS rfl g0))) (gS rfl (gS rfl g0)) (gS rfl g0) (fun g => ?_)
                refine c_seq (fun K14 hK14 => ?_)
                refine c_block (fun Q15 hQ15 => ?_)
                refine c_seq (fun K16 hK16 => ?_)
                exact (by
                  refine c_region ?_
                  refine l_step (y_moveV (et g0 rfl)) ?_
                  refine l_step (y_assignV (et g0 rfl)) ?_
                  refine l_nil ?_
                  refine hK16 _ _ ?_
                  refine fg4 0 1 16 5 (gS rfl (gS rfl (gS rfl (gS rfl g0)))) (gS rfl (gS rfl (gS rfl g0))) (gS rfl (gS rfl g0)) g0 (fun g => ?_)
                  refine c_seq (fun K17 hK17 => ?_)
                  exact (by
                    refine c_region ?_
                    refine l_step (y_moveV (et (gS rfl (gS rfl (gS rfl g0))) rfl)) ?_
                    refine l_step (y_moveV (et (gS rfl g0) rfl)) ?_
                    refine l_step (y_nil (et (gS rfl g0) rfl)) ?_
                    refine l_step (y_fld fld_84_2 (et g0 rfl)) ?_
                    refine l_step (y_idxA Hvaa.underlying78 sz_21 (et g0 rfl) (et (gS rfl (gS rfl g0)) rfl) ?_ ?_) ?_
                    omega
                    omega
                    refine l_effN (e_store sz_21 (et g0 rfl) (cellsV rfl rfl) rfl (by intro v hv; simp at hv; subst hv; rfl) hT.vl.kC (by rw [hT.vl.size]; first | omega | (simp; done) | (simp; omega))) (fun v18 w18 h18 => ?_)
                    obtain ⟨rfl, x18⟩ := h18
                    have hv18 := hT.stA (p := i) (q := -1) hml hil (by first | omega | (simp; done) | (simp; omega)) x18
                    replace hT := hv18
                    replace U := U.cc x18.ch (by intro b hb; exact .inl trivial)
                    refine l_nil ?_
                    refine hK17 _ _ ?_
                    refine fg4 0 1 16 5 (gS rfl (gS rfl (gS rfl (gS rfl (gS rfl (gS rfl (gS rfl (gS rfl g0)))))))) (gS rfl (gS rfl (gS rfl (gS rfl (gS rfl (gS rfl (gS rfl g0))))))) (gS rfl (gS rfl (gS rfl (gS rfl (gS rfl (gS rfl g0)))))) (gS rfl (gS rfl (gS rfl (gS rfl (gS rfl g0))))) (fun g => ?_)
                    refine c_region ?_
                    refine l_step (y_moveV (et (gS rfl (gS rfl (gS rfl g0))) rfl)) ?_
                    refine l_step (y_moveV (et (gS rfl g0) rfl)) ?_
                    refine l_step (y_nil (et (gS rfl g0) rfl)) ?_
                    refine l_step (y_fld fld_84_3 (et g0 rfl)) ?_
                    refine l_step (y_idxA Hvaa.underlying78 sz_21 (et g0 rfl) (et (gS rfl (gS rfl g0)) rfl) ?_ ?_) ?_
                    omega
                    omega
                    refine l_effN (e_store sz_21 (et g0 rfl) (cellsV rfl rfl) rfl (by intro v hv; simp at hv; subst hv; rfl) hT.vl.kC (by rw [hT.vl.size]; first | omega | (simp; done) | (simp; omega))) (fun v19 w19 h19 => ?_)
                    obtain ⟨rfl, x19⟩ := h19
                    have hv19 := hT.stS (p := i) (q := -1) hml hil (by first | omega | (simp; done) | (simp; omega)) x19
                    replace hT := hv19
                    replace U := U.cc x19.ch (by intro b hb; exact .inl trivial)
                    refine l_nil ?_
                    refine hQ15 _ _ _ (in_normal ?_)
                    refine hK14 _ _ ?_
                    refine fg3 0 1 16 (gS rfl (gS rfl (gS rfl (gS rfl (gS rfl (gS rfl (gS rfl (gS rfl g0)))))))) (gS rfl (gS rfl (gS rfl (gS rfl (gS rfl (gS rfl (gS rfl g0))))))) (gS rfl (gS rfl (gS rfl (gS rfl (gS rfl (gS rfl g0)))))) (fun g => ?_)
                    refine c_region ?_
                    exact (by
                      refine l_step (y_add (et g0 rfl) rfl (addIN (y := 1) ?_)) ?_
                      omega
                      refine l_step (y_moveV (et g0 rfl)) ?_
                      refine l_nil ?_
                      refine fK3 0 1 16 (gS rfl (gS rfl (gS rfl (gS rfl g0)))) (gS rfl (gS rfl (gS rfl g0))) g0 (fun g => ?_)
                      exact hK10 (4096 - ((i + 1))) _ _ (by omega) ⟨g, _, (i + 1), rfl, rfl, by omega, by rw [← evi_next]; exact hT⟩)))
              · skip
                
                have hil : i = 4096 := by have := of_decide_eq_false cB2; omega
                subst hil
                refine c_exit ?_
                refine hQ9 _ _ _ (in_exit ?_)
                refine hK7 _ _ ?_
                refine fg2 0 1 (gS rfl (gS rfl (gS rfl g0))) (gS rfl (gS rfl g0)) (fun g => ?_)
                refine c_seq (fun K20 hK20 => ?_)
                refine c_seq (fun K21 hK21 => ?_)
                exact (by
                  refine c_region ?_
                  refine l_step (y_moveV (et g0 rfl)) ?_
                  refine l_step (y_len Hvaa.underlying23 (et g0 rfl)) ?_
                  refine l_step y_moveC ?_
                  refine l_nil ?_
                  refine hK21 _ _ ?_
                  refine fg4 0 1 31 32 (gS rfl (gS rfl (gS rfl (gS rfl g0)))) (gS rfl (gS rfl (gS rfl g0))) (gS rfl g0) g0 (fun g => ?_)
                  refine c_block (fun Q22 hQ22 => ?_)
                  refine fg4 0 1 31 32 (gS rfl (gS rfl (gS rfl g0))) (gS rfl (gS rfl g0)) (gS rfl g0) g0 (fun g => ?_)
                  refine c_loop (fun k_ s_ W23 => ∃ (g : Nat → Value) (H1 : Store) (col1 : Nat → Nat) (cs1 : Array Value) (V1 : EV) (i : Nat), s_ = (upd (upd (upd (upd g 0 (.pointer (some ⟨bc, 2435, none⟩))) 1 (.slice wa l.length wc)) 31 (.int .i64 (l.length : Nat))) 32 (.int .i64 (i : Nat))) ∧ l.length - i = k_ ∧ (i ≤ l.length) ∧ (VT w H col bc cs W23 H1 col1 cs1 V1) ∧ (FV (l.take i) V1 (16 * i))) (l.length - (0)) ?_ ?_
                  · exact ⟨g, H, _, _, _, 0, rfl, rfl, Nat.zero_le _, hT, fv_zero (fun p hp => if_pos hp) (fun p hp => if_pos hp)⟩
                  · skip
                    intro k_ s_ W23 hI K23 hK23
                    obtain ⟨g, H1, col1, cs1, V1, i, rfl, rfl, hi, hT, hfv⟩ := hI
                    have U : Ch (fun _ => True) w W23 := hT.go.ch.mono (fun _ _ _ => trivial)
                    have hcC := hT.vl.colC
                    refine c_seq (fun K24 hK24 => ?_)
                    exact (by
                      refine c_region ?_
                      refine l_step (y_lss (et g0 rfl) (et (gS rfl g0) rfl)) ?_
                      refine l_nil ?_
                      refine hK24 _ _ ?_
                      refine c_seq (fun K25 hK25 => ?_)
                      refine c_cond (et g0 rfl) (fun cB3 => ?_) (fun cB3 => ?_)
                      · skip
                        
                        have hil : i < l.length := by have := of_decide_eq_true cB3; omega
                        obtain ⟨bq, oq, Cq, rq, hwa, hBq, hRq, hrl, vc1, vs1, hrq, hadr, hcod, hslo, hnon, hbal⟩ := (hW.mono hT.go.le).rowH (i := i) hil
                        rw [hrq] at hRq hrl
                        obtain ⟨cda, cdc, rfl, _⟩ := hcod.sv.val
                        obtain ⟨sva, svc, rfl, _⟩ := hslo.val
                        have hAk := hok.acct _ (List.getElem_mem hil)
                        have hcl8 := hAk.code
                        have hsl8 := hAk.slots
                        have hna := hfv.na
                        have hns := hfv.ns
                        rw [List.length_take] at hna
                        refine c_skip ?_
                        refine hK25 _ _ ?_
                        refine fg4 0 1 31 32 (gS rfl (gS rfl (gS rfl (gS rfl g0)))) (gS rfl (gS rfl (gS rfl g0))) (gS rfl (gS rfl g0)) (gS rfl g0) (fun g => ?_)
                        refine c_seq (fun K27 hK27 => ?_)
                        refine c_block (fun Q28 hQ28 => ?_)
                        refine c_seq (fun K29 hK29 => ?_)
                        exact (by
                          refine c_region ?_
                          refine l_step (y_moveV (et g0 rfl)) ?_
                          refine l_step (y_assignV (et g0 rfl)) ?_
                          refine l_nil ?_
                          refine hK29 _ _ ?_
                          refine fg5 0 1 31 32 6 (gS rfl (gS rfl (gS rfl (gS rfl (gS rfl g0))))) (gS rfl (gS rfl (gS rfl (gS rfl g0)))) (gS rfl (gS rfl (gS rfl g0))) (gS rfl (gS rfl g0)) g0 (fun g => ?_)
                          refine c_seq (fun K30 hK30 => ?_)
                          exact (by
                            refine c_region ?_
                            refine l_step (y_moveV (et (gS rfl (gS rfl (gS rfl (gS rfl g0)))) rfl)) ?_
                            refine l_step (y_moveV (et (gS rfl (gS rfl (gS rfl (gS rfl g0)))) rfl)) ?_
                            refine l_step (y_moveV (et (gS rfl (gS rfl g0)) rfl)) ?_
                            refine l_step (y_idxSa hwa Hvaa.underlying23 sz_113 (et (gS rfl g0) rfl) (et g0 rfl) ?_) ?_
                            omega
                            refine l_step (y_fld fld_113_0 (et g0 rfl)) ?_
                            refine l_step (y_loadR agg_25 sz_25 (et g0 rfl) (by rw [length_bL, length_be]) (at1R (oa_adr (hBq.row hT.vl.fz hRq) (by omega)))) ?_
                            refine l_eff (e_callV cal_82 (aC (et (gS rfl (gS rfl (gS rfl (gS rfl (gS rfl g0))))) rfl) (aC (et g0 rfl) aN)) (v_acct hT.vl hfv.ok l[i].addr hadr 1 (.inr ⟨by omega, rfl⟩))) (fun v31 w31 h31 => ?_)
                            obtain ⟨i9, x9, col2, cs2, V2, rfl, hT2, hLy, hx9, hxa, htmE⟩ := h31
                            replace hT := hT.trans hT2
                            replace U := U.cc hT2.go.ch (by intro b hb; exact .inl trivial)
                            obtain ⟨ba, ca, cap9, vc9, hAA⟩ := hT2.vl.acct hx9
                            have hi9 := hAA.lt
                            have hac := hAA.col
                            have hok9 := hAA.ok
                            have hfit := hAA.fit
                            have hb9 := hLy.ok.bd.accts
                            refine l_step (y_moveV (et g0 rfl)) ?_
                            refine l_step (y_ext (et g0 rfl) rfl) ?_
                            refine l_step (y_ext (et (gS rfl g0) rfl) rfl) ?_
                            refine l_step (y_assignV (et (gS rfl g0) rfl)) ?_
                            refine l_step (y_assignV (et (gS rfl g0) rfl)) ?_
                            refine l_nil ?_
                            refine hK30 _ _ ?_
                            refine fg6 0 1 31 32 6 7 (gS rfl (gS rfl (gS rfl (gS rfl (gS rfl (gS rfl (gS rfl (gS rfl (gS rfl (gS rfl (gS rfl (gS rfl (gS rfl (gS rfl (gS rfl (gS rfl g0)))))))))))))))) (gS rfl (gS rfl (gS rfl (gS rfl (gS rfl (gS rfl (gS rfl (gS rfl (gS rfl (gS rfl (gS rfl (gS rfl (gS rfl (gS rfl (gS rfl g0))))))))))))))) (gS rfl (gS rfl (gS rfl (gS rfl (gS rfl (gS rfl (gS rfl (gS rfl (gS rfl (gS rfl (gS rfl (gS rfl (gS rfl (gS rfl g0)))))))))))))) (gS rfl (gS rfl (gS rfl (gS rfl (gS rfl (gS rfl (gS rfl (gS rfl (gS rfl (gS rfl (gS rfl (gS rfl (gS rfl g0))))))))))))) (gS rfl (gS rfl (gS rfl (gS rfl (gS rfl (gS rfl (gS rfl (gS rfl (gS rfl (gS rfl (gS rfl (gS rfl g0)))))))))))) (gS rfl g0) (fun g => ?_)
                            refine c_seq (fun K32 hK32 => ?_)
                            exact (by
                              refine c_draw Up 12 [(0, true), (1, true), (2, true), (3, true), (4, true), (5, true), (6, true), (7, true), (8, true), (9, true), (10, true), (11, true), (12, false)] (by kernel_rfl) (fun w33 hu => ⟨Up.refl _, ?_⟩)
                              replace hT := hT.up hu
                              replace hAA := hAA.up hu
                              replace U := U.tr hu
                              have SU := Up.refl w33
                              refine p_step (by exact rfl) (y_moveV (et (gS rfl (gS rfl (gS rfl (gS rfl (gS rfl g0))))) rfl)) ?_
                              refine p_step (by exact rfl) (y_nil (et g0 rfl)) ?_
                              refine p_step (by exact rfl) (y_fld fld_84_0 (et g0 rfl)) ?_
                              refine p_step (by exact rfl) (y_load1 one_76 (et g0 rfl) (atS (hT.vl.c1 hAA.sl rfl))) ?_
                              refine p_step (by exact rfl) (y_moveV (et (gS rfl (gS rfl (gS rfl (gS rfl g0)))) rfl)) ?_
                              refine p_step (by exact rfl) (y_moveV (et (gS rfl (gS rfl (gS rfl (gS rfl (gS rfl (gS rfl (gS rfl (gS rfl (gS rfl g0))))))))) rfl)) ?_
                              refine p_step (by exact rfl) (y_moveV (et (gS rfl (gS rfl (gS rfl (gS rfl (gS rfl (gS rfl (gS rfl g0))))))) rfl)) ?_
                              refine p_step (by exact rfl) (y_idxSa hwa Hvaa.underlying23 sz_113 (et (gS rfl g0) rfl) (et g0 rfl) ?_) ?_
                              omega
                              refine p_step (by exact rfl) (y_fld fld_113_1 (et g0 rfl)) ?_
                              refine p_step (by exact rfl) (y_load1 one_26 (et g0 rfl) (atS (oa_c1 (hBq.row hT.vl.fz hRq) oaC_non (by omega)))) ?_
                              refine p_step (by exact rfl) (y_idxS Hvaa.underlying76 sz_167 (et (gS rfl (gS rfl (gS rfl (gS rfl (gS rfl (gS rfl g0)))))) rfl) (et (gS rfl (gS rfl (gS rfl (gS rfl (gS rfl g0))))) rfl) ?_ ?_) ?_
                              omega
                              omega
                              refine p_step (by exact rfl) (y_fld fld_167_1 (et g0 rfl)) ?_
                              refine p_effN (by exact rfl) (e_store sz_26 (et g0 rfl) (cellsV (et (gS rfl (gS rfl g0)) rfl) rfl) rfl (by intro v hv; simp at hv; subst hv; rfl) hAA.kA (by simp; omega)) (fun v34 w34 h34 => ?_)
                              obtain ⟨rfl, x34⟩ := h34
                              have hv34 := hT.setA hAA (j := 20) (y := { x9 with nonce := l[i].nonce }) (by simp) x34 ea_nonce (Nat.le_of_ble_eq_true rfl) hAA.code ⟨hok9.addr, hnon, hok9.bal, hok9.code⟩
                              replace hT := hv34
                              replace U := U.cc x34.ch (by intro b hb; exact .inl trivial)
                              obtain ⟨ba3, ca3, cap3, vc3, hA3⟩ := hT.vl.acct (i := i9) (x := { x9 with nonce := l[i].nonce }) (set_at hi9)
                              have hi3 := hA3.lt
                              have hac3 := hA3.col
                              have hfit3 := hA3.fit
                              refine ⟨.inl rfl, ?_⟩
                              refine p_nil ?_
                              refine hK32 _ _ ?_
                              refine fg6 0 1 31 32 6 7 (gS rfl (gS rfl (gS rfl (gS rfl (gS rfl (gS rfl (gS rfl (gS rfl (gS rfl (gS rfl (gS rfl (gS rfl (gS rfl (gS rfl (gS rfl (gS rfl (gS rfl g0))))))))))))))))) (gS rfl (gS rfl (gS rfl (gS rfl (gS rfl (gS rfl (gS rfl (gS rfl (gS rfl (gS rfl (gS rfl (gS rfl (gS rfl (gS rfl (gS rfl (gS rfl g0)))))))))))))))) (gS rfl (gS rfl (gS rfl (gS rfl (gS rfl (gS rfl (gS rfl (gS rfl (gS rfl (gS rfl (gS rfl (gS rfl (gS rfl (gS rfl (gS rfl g0))))))))))))))) (gS rfl (gS rfl (gS rfl (gS rfl (gS rfl (gS rfl (gS rfl (gS rfl (gS rfl (gS rfl (gS rfl (gS rfl (gS rfl (gS rfl g0)))))))))))))) (gS rfl (gS rfl (gS rfl (gS rfl (gS rfl (gS rfl (gS rfl (gS rfl (gS rfl (gS rfl (gS rfl (gS rfl (gS rfl g0))))))))))))) (gS rfl (gS rfl (gS rfl (gS rfl (gS rfl (gS rfl (gS rfl (gS rfl (gS rfl (gS rfl (gS rfl (gS rfl g0)))))))))))) (fun g => ?_)
                              refine c_seq (fun K35 hK35 => ?_)
                              exact (by
                                refine c_draw Up 13 [(0, true), (1, true), (2, true), (3, true), (4, true), (5, true), (6, true), (7, true), (8, true), (9, true), (10, false), (11, true), (12, true), (13, false)] (by kernel_rfl) (fun w36 hu => ⟨Up.refl _, ?_⟩)
                                replace hT := hT.up hu
                                replace hA3 := hA3.up hu
                                replace U := U.tr hu
                                have SU := Up.refl w36
                                refine p_step (by exact rfl) (y_moveV (et (gS rfl (gS rfl (gS rfl (gS rfl (gS rfl g0))))) rfl)) ?_
                                refine p_step (by exact rfl) (y_nil (et g0 rfl)) ?_
                                refine p_step (by exact rfl) (y_fld fld_84_0 (et g0 rfl)) ?_
                                refine p_step (by exact rfl) (y_load1 one_76 (et g0 rfl) (atS (hT.vl.c1 hA3.sl rfl))) ?_
                                refine p_step (by exact rfl) (y_moveV (et (gS rfl (gS rfl (gS rfl (gS rfl g0)))) rfl)) ?_
                                refine p_step (by exact rfl) (y_moveV (et (gS rfl (gS rfl (gS rfl (gS rfl (gS rfl (gS rfl (gS rfl (gS rfl (gS rfl g0))))))))) rfl)) ?_
                                refine p_step (by exact rfl) (y_moveV (et (gS rfl (gS rfl (gS rfl (gS rfl (gS rfl (gS rfl (gS rfl g0))))))) rfl)) ?_
                                refine p_step (by exact rfl) (y_idxSa hwa Hvaa.underlying23 sz_113 (et (gS rfl g0) rfl) (et g0 rfl) ?_) ?_
                                omega
                                refine p_step (by exact rfl) (y_fld fld_113_2 (et g0 rfl)) ?_
                                refine p_step (by exact rfl) (y_loadR agg_28 sz_28 (et g0 rfl) (by rw [length_bL, length_be]) (atSR (oa_row (hBq.row hT.vl.fz hRq) (by omega)))) ?_
                                refine p_eff (by exact rfl) (e_callV cal_83 (aC (et g0 rfl) aN) (fromBytes_spec _ _)) (fun v37 w37 h37 => ?_)
                                obtain ⟨rfl, u37⟩ := h37
                                replace hT := hT.up u37
                                replace hA3 := hA3.up u37
                                replace U := U.tr u37
                                refine ⟨.inr (SU.tr u37), ?_⟩
                                replace SU := SU.tr u37
                                refine p_step (by exact rfl) (y_idxS Hvaa.underlying76 sz_167 (et (gS rfl (gS rfl (gS rfl (gS rfl (gS rfl (gS rfl (gS rfl g0))))))) rfl) (et (gS rfl (gS rfl (gS rfl (gS rfl (gS rfl (gS rfl g0)))))) rfl) ?_ ?_) ?_
                                omega
                                exact Int.ofNat_lt.2 hi3
                                refine p_step (by exact rfl) (y_fld fld_167_2 (et g0 rfl)) ?_
                                refine p_effN (by exact rfl) (e_store sz_65 (et g0 rfl) (cellsV (et (gS rfl (gS rfl g0)) rfl) rfl) rfl (by exact one_uL _) hA3.kA (by simp; omega)) (fun v38 w38 h38 => ?_)
                                obtain ⟨rfl, x38⟩ := h38
                                have hv38 := hT.setA hA3 (j := 21) (y := { x9 with nonce := l[i].nonce, bal := l[i].bal }) (by simp) x38 ea_bal (Nat.le_of_ble_eq_true rfl) hA3.code ⟨hok9.addr, hnon, hbal, hok9.code⟩
                                replace hT := hv38
                                replace U := U.cc x38.ch (by intro b hb; exact .inl trivial)
                                obtain ⟨ba4, ca4, cap4, vc4, hA4⟩ := hT.vl.acct (i := i9) (x := { x9 with nonce := l[i].nonce, bal := l[i].bal }) (set_at hi3)
                                have hi4 := hA4.lt
                                refine ⟨.inl rfl, ?_⟩
                                refine p_nil ?_
                                refine hK35 _ _ ?_
                                refine fg6 0 1 31 32 6 7 (gS rfl (gS rfl (gS rfl (gS rfl (gS rfl (gS rfl (gS rfl (gS rfl (gS rfl (gS rfl (gS rfl (gS rfl (gS rfl (gS rfl (gS rfl (gS rfl (gS rfl (gS rfl g0)))))))))))))))))) (gS rfl (gS rfl (gS rfl (gS rfl (gS rfl (gS rfl (gS rfl (gS rfl (gS rfl (gS rfl (gS rfl (gS rfl (gS rfl (gS rfl (gS rfl (gS rfl (gS rfl g0))))))))))))))))) (gS rfl (gS rfl (gS rfl (gS rfl (gS rfl (gS rfl (gS rfl (gS rfl (gS rfl (gS rfl (gS rfl (gS rfl (gS rfl (gS rfl (gS rfl (gS rfl g0)))))))))))))))) (gS rfl (gS rfl (gS rfl (gS rfl (gS rfl (gS rfl (gS rfl (gS rfl (gS rfl (gS rfl (gS rfl (gS rfl (gS rfl (gS rfl (gS rfl g0))))))))))))))) (gS rfl (gS rfl (gS rfl (gS rfl (gS rfl (gS rfl (gS rfl (gS rfl (gS rfl (gS rfl (gS rfl (gS rfl (gS rfl (gS rfl g0)))))))))))))) (gS rfl (gS rfl (gS rfl (gS rfl (gS rfl (gS rfl (gS rfl (gS rfl (gS rfl (gS rfl (gS rfl (gS rfl (gS rfl g0))))))))))))) (fun g => ?_)
                                refine c_seq (fun K39 hK39 => ?_)
                                exact (by
                                  refine c_draw Up 13 [(0, true), (1, true), (2, true), (3, true), (4, true), (5, true), (6, true), (7, true), (8, true), (9, true), (10, false), (11, true), (12, true), (13, false)] (by kernel_rfl) (fun w40 hu => ⟨Up.refl _, ?_⟩)
                                  replace hT := hT.up hu
                                  replace hA4 := hA4.up hu
                                  replace U := U.tr hu
                                  have SU := Up.refl w40
                                  refine p_step (by exact rfl) (y_moveV (et (gS rfl (gS rfl (gS rfl (gS rfl (gS rfl g0))))) rfl)) ?_
                                  refine p_step (by exact rfl) (y_nil (et g0 rfl)) ?_
                                  refine p_step (by exact rfl) (y_fld fld_84_0 (et g0 rfl)) ?_
                                  refine p_step (by exact rfl) (y_load1 one_76 (et g0 rfl) (atS (hT.vl.c1 hA4.sl rfl))) ?_
                                  refine p_step (by exact rfl) (y_moveV (et (gS rfl (gS rfl (gS rfl (gS rfl g0)))) rfl)) ?_
                                  refine p_step (by exact rfl) (y_moveV (et (gS rfl (gS rfl (gS rfl (gS rfl (gS rfl (gS rfl (gS rfl (gS rfl (gS rfl g0))))))))) rfl)) ?_
                                  refine p_step (by exact rfl) (y_moveV (et (gS rfl (gS rfl (gS rfl (gS rfl (gS rfl (gS rfl (gS rfl g0))))))) rfl)) ?_
                                  refine p_step (by exact rfl) (y_idxSa hwa Hvaa.underlying23 sz_113 (et (gS rfl g0) rfl) (et g0 rfl) ?_) ?_
                                  omega
                                  refine p_step (by exact rfl) (y_fld fld_113_3 (et g0 rfl)) ?_
                                  refine p_step (by exact rfl) (y_load1 one_38 (et g0 rfl) (atS (oa_c1 (hBq.row hT.vl.fz hRq) oaC_cod (by omega)))) ?_
                                  refine p_eff (by exact rfl) (e_callV cal_77 (aC (et g0 rfl) aN) (vault_copied _ _ _ _ _ _ hT.vl.fz (hcod.wv hT.vl.fz) (Nat.le_refl _) (by omega))) (fun v41 w41 h41 => ?_)
                                  obtain ⟨H41, g41, b941⟩ := h41
                                  replace hA4 := hA4.ch g41.ch (by exact fun h => h)
                                  replace hT := hT.gn g41
                                  replace U := U.cc g41.ch (by intro b hb; exact .inl trivial)
                                  obtain ⟨ya9, yc9, rfl, _⟩ := b941.sv.val
                                  have hsl := hA4.sl
                                  obtain ⟨ba5, ca5, cap5, vc5, hA5⟩ := hT.vl.acct (i := i9) (x := { x9 with nonce := l[i].nonce, bal := l[i].bal }) (set_at hi3)
                                  have e9 := hA5.sl
                                  rw [hsl] at e9
                                  cases e9
                                  have hfit5 := hA5.fit
                                  have hac5 := hA5.col
                                  have hslo := hslo.mono g41.le
                                  have hBq := hBq.mono g41.le
                                  replace SU := SU.cc g41.ch (by intro b hb; first | exact .inl hb | exact hb.elim | omega)
                                  refine ⟨.inr SU, ?_⟩
                                  exact (by
                                    refine p_step (by exact rfl) (y_idxS Hvaa.underlying76 sz_167 (et (gS rfl (gS rfl (gS rfl (gS rfl (gS rfl (gS rfl (gS rfl g0))))))) rfl) (et (gS rfl (gS rfl (gS rfl (gS rfl (gS rfl (gS rfl g0)))))) rfl) ?_ ?_) ?_
                                    omega
                                    exact Int.ofNat_lt.2 hi4
                                    refine p_step (by exact rfl) (y_fld fld_167_3 (et g0 rfl)) ?_
                                    refine p_effN (by exact rfl) (e_store sz_38 (et g0 rfl) (cellsV (et (gS rfl (gS rfl g0)) rfl) rfl) rfl (by intro v hv; simp at hv; subst hv; rfl) hA5.kA (by simp; omega)) (fun v42 w42 h42 => ?_)
                                    obtain ⟨rfl, x42⟩ := h42
                                    have hv42 := hT.setA hA5 (j := 25) (y := { x9 with nonce := l[i].nonce, bal := l[i].bal, code := l[i].code }) (by simp) x42 ea_code (Nat.le_of_ble_eq_true rfl) b941 ⟨hok9.addr, hnon, hbal, (by show l[i].code.length ≤ 512; omega)⟩
                                    replace hT := hv42
                                    replace U := U.cc x42.ch (by intro b hb; exact .inl trivial)
                                    rw [set3] at hT
                                    have hfv5 : FV (l.take i ++ [({ l[i] with slots := l[i].slots.take 0 } : YAcct)]) ({ V2 with accts := V2.accts.set i9 { x9 with nonce := l[i].nonce, bal := l[i].bal, code := l[i].code } } : EV) (16 * i + 0) := fv_acct (B := ({ l[i] with slots := l[i].slots.take 0 } : YAcct)) hfv hLy hx9 hxa (wok_take hok hil) rfl (by simp) rfl
                                    have hax5 : hasA ({ V2 with accts := V2.accts.set i9 { x9 with nonce := l[i].nonce, bal := l[i].bal, code := l[i].code } } : EV) l[i].addr ∧ ai ({ V2 with accts := V2.accts.set i9 { x9 with nonce := l[i].nonce, bal := l[i].bal, code := l[i].code } } : EV) l[i].addr = i9 := ⟨hasA_of (i := i9) (x := { x9 with nonce := l[i].nonce, bal := l[i].bal, code := l[i].code }) (set_at (by simpa using hi9)) hxa, ai_eq hfv5.ok (i := i9) (x := { x9 with nonce := l[i].nonce, bal := l[i].bal, code := l[i].code }) (set_at (by simpa using hi9)) hxa⟩
                                    refine ⟨.inl rfl, ?_⟩
                                    refine p_nil ?_
                                    refine hK39 _ _ ?_
                                    refine fg6 0 1 31 32 6 7 (gS rfl (gS rfl (gS rfl (gS rfl (gS rfl (gS rfl (gS rfl (gS rfl (gS rfl (gS rfl (gS rfl (gS rfl (gS rfl (gS rfl (gS rfl (gS rfl (gS rfl (gS rfl g0)))))))))))))))))) (gS rfl (gS rfl (gS rfl (gS rfl (gS rfl (gS rfl (gS rfl (gS rfl (gS rfl (gS rfl (gS rfl (gS rfl (gS rfl (gS rfl (gS rfl (gS rfl (gS rfl g0))))))))))))))))) (gS rfl (gS rfl (gS rfl (gS rfl (gS rfl (gS rfl (gS rfl (gS rfl (gS rfl (gS rfl (gS rfl (gS rfl (gS rfl (gS rfl (gS rfl (gS rfl g0)))))))))))))))) (gS rfl (gS rfl (gS rfl (gS rfl (gS rfl (gS rfl (gS rfl (gS rfl (gS rfl (gS rfl (gS rfl (gS rfl (gS rfl (gS rfl (gS rfl g0))))))))))))))) (gS rfl (gS rfl (gS rfl (gS rfl (gS rfl (gS rfl (gS rfl (gS rfl (gS rfl (gS rfl (gS rfl (gS rfl (gS rfl (gS rfl g0)))))))))))))) (gS rfl (gS rfl (gS rfl (gS rfl (gS rfl (gS rfl (gS rfl (gS rfl (gS rfl (gS rfl (gS rfl (gS rfl (gS rfl g0))))))))))))) (fun g => ?_)
                                    refine c_seq (fun K43 hK43 => ?_)
                                    exact (by
                                      refine c_region ?_
                                      refine l_step (y_moveV (et (gS rfl (gS rfl (gS rfl (gS rfl g0)))) rfl)) ?_
                                      refine l_step (y_moveV (et (gS rfl (gS rfl g0)) rfl)) ?_
                                      refine l_step (y_idxSa hwa Hvaa.underlying23 sz_113 (et (gS rfl g0) rfl) (et g0 rfl) ?_) ?_
                                      omega
                                      refine l_step (y_fld fld_113_4 (et g0 rfl)) ?_
                                      refine l_step (y_load1 one_111 (et g0 rfl) (at1 (oa_c1 (hBq.row hT.vl.fz hRq) oaC_sto (by omega)))) ?_
                                      refine l_step (y_len Hvaa.underlying111 (et g0 rfl)) ?_
                                      refine l_step y_moveC ?_
                                      refine l_nil ?_
                                      refine hK43 _ _ ?_
                                      refine fg8 0 1 31 32 7 87 88 89 (gS rfl (gS rfl (gS rfl (gS rfl (gS rfl (gS rfl (gS rfl (gS rfl (gS rfl (gS rfl (gS rfl (gS rfl g0)))))))))))) (gS rfl (gS rfl (gS rfl (gS rfl (gS rfl (gS rfl (gS rfl (gS rfl (gS rfl (gS rfl (gS rfl g0))))))))))) (gS rfl (gS rfl (gS rfl (gS rfl (gS rfl (gS rfl (gS rfl (gS rfl (gS rfl (gS rfl g0)))))))))) (gS rfl (gS rfl (gS rfl (gS rfl (gS rfl (gS rfl (gS rfl (gS rfl (gS rfl g0))))))))) (gS rfl (gS rfl (gS rfl (gS rfl (gS rfl (gS rfl (gS rfl g0))))))) (gS rfl (gS rfl g0)) (gS rfl g0) g0 (fun g => ?_)
                                      refine c_block (fun Q44 hQ44 => ?_)
                                      refine fg8 0 1 7 31 32 87 88 89 (gS rfl (gS rfl (gS rfl (gS rfl (gS rfl (gS rfl (gS rfl g0))))))) (gS rfl (gS rfl (gS rfl (gS rfl (gS rfl (gS rfl g0)))))) (gS rfl (gS rfl (gS rfl g0))) (gS rfl (gS rfl (gS rfl (gS rfl (gS rfl g0))))) (gS rfl (gS rfl (gS rfl (gS rfl g0)))) (gS rfl (gS rfl g0)) (gS rfl g0) g0 (fun g => ?_)
                                      refine c_loop (fun k_ s_ W45 => ∃ (g : Nat → Value) (col3 : Nat → Nat) (cs3 : Array Value) (V3 : EV) (j : Nat), s_ = (upd (upd (upd (upd (upd (upd (upd (upd g 0 (.pointer (some ⟨bc, 2435, none⟩))) 1 (.slice wa l.length wc)) 7 (.int .i32 (i9 : Nat))) 31 (.int .i64 (l.length : Nat))) 32 (.int .i64 (i : Nat))) 87 (.slice sva l[i].slots.length svc)) 88 (.int .i64 (l[i].slots.length : Nat))) 89 (.int .i64 (j : Nat))) ∧ l[i].slots.length - j = k_ ∧ (j ≤ l[i].slots.length) ∧ (VT w H col bc cs W45 H41 col3 cs3 V3) ∧ (FV (l.take i ++ [({ l[i] with slots := l[i].slots.take j } : YAcct)]) V3 (16 * i + j)) ∧ (hasA V3 l[i].addr ∧ ai V3 l[i].addr = i9)) (l[i].slots.length - (0)) ?_ ?_
                                      · exact ⟨g, _, _, _, 0, rfl, rfl, Nat.zero_le _, hT, hfv5, hax5⟩
                                      · skip
                                        intro k_ s_ W45 hI K45 hK45
                                        obtain ⟨g, col3, cs3, V3, j, rfl, rfl, hj, hT, hf3, hax⟩ := hI
                                        have U : Ch (fun _ => True) w W45 := hT.go.ch.mono (fun _ _ _ => trivial)
                                        have hcC := hT.vl.colC
                                        have hnw3 := hT.vl.new
                                        refine c_seq (fun K46 hK46 => ?_)
                                        exact (by
                                          refine c_region ?_
                                          refine l_step (y_lss (et g0 rfl) (et (gS rfl g0) rfl)) ?_
                                          refine l_nil ?_
                                          refine hK46 _ _ ?_
                                          refine c_seq (fun K47 hK47 => ?_)
                                          refine c_cond (et g0 rfl) (fun cB4 => ?_) (fun cB4 => ?_)
                                          · skip
                                            
                                            have hjl : j < l[i].slots.length := by have := of_decide_eq_true cB4; omega
                                            obtain ⟨bk, ok, Ck, rk, hka, hBk, hRk, hkl, hrk, hkb, hvb⟩ := hslo.rowH (i := j) hjl
                                            rw [hrk] at hRk hkl
                                            have hks := hf3.ns
                                            have hha3 := hasA_lt hax.1
                                            rw [hax.2] at hha3
                                            refine c_skip ?_
                                            refine hK47 _ _ ?_
                                            refine fg8 0 1 7 31 32 87 88 89 (gS rfl (gS rfl (gS rfl (gS rfl (gS rfl (gS rfl (gS rfl (gS rfl g0)))))))) (gS rfl (gS rfl (gS rfl (gS rfl (gS rfl (gS rfl (gS rfl g0))))))) (gS rfl (gS rfl (gS rfl (gS rfl (gS rfl (gS rfl g0)))))) (gS rfl (gS rfl (gS rfl (gS rfl (gS rfl g0))))) (gS rfl (gS rfl (gS rfl (gS rfl g0)))) (gS rfl (gS rfl (gS rfl g0))) (gS rfl (gS rfl g0)) (gS rfl g0) (fun g => ?_)
                                            refine c_seq (fun K49 hK49 => ?_)
                                            refine c_block (fun Q50 hQ50 => ?_)
                                            refine c_seq (fun K51 hK51 => ?_)
                                            exact (by
                                              refine c_region ?_
                                              refine l_step (y_idxSa hka Hvaa.underlying111 sz_117 (et (gS rfl (gS rfl g0)) rfl) (et g0 rfl) ?_) ?_
                                              omega
                                              refine l_step (y_loadR agg_117 sz_117 (et g0 rfl) hkl (at1R (hBk.row hT.vl.fz hRk))) ?_
                                              have hnwj := hT.vl.new
                                              have hfz9 := hT.vl.fz
                                              refine l_eff (e_alloc zr_117) (fun v52 w52 h52 => ?_)
                                              obtain ⟨b52, rfl, n52⟩ := h52
                                              have f52 : w.heap.size ≤ b52 := Nat.le_trans U.size n52.fresh
                                              replace hT := hT.up n52.up
                                              replace U := U.tr n52.up
                                              have k52 := n52.blk
                                              obtain ⟨zs52, hz52, k52⟩ : ∃ cs : Array Value, cs.size = 64 ∧ Blk w52 b52 cs := ⟨_, rfl, k52⟩
                                              have nc52 := hnwj _ n52.fresh
                                              have fr9 := n52.fresh
                                              refine l_effN (e_store sz_117 (et g0 rfl) (cellsV (et (gS rfl g0) rfl) rfl) os_len (by exact os_one) k52 (by (rw [hz52]; exact Nat.le_refl _))) (fun v53 w53 h53 => ?_)
                                              obtain ⟨rfl, x53⟩ := h53
                                              replace hT := hT.ch x53.ch (by first | omega | (intro b hb; subst hb; exact ⟨by omega, fun hh => by have := hfz9.lt hh; omega, by omega⟩))
                                              replace k52 := x53.blk.full (by rw [os_len, hz52])
                                              replace U := U.st x53 (.inr f52)
                                              refine l_nil ?_
                                              refine hK51 _ _ ?_
                                              refine fg9 0 1 7 31 32 87 88 89 10 (gS rfl (gS rfl (gS rfl (gS rfl (gS rfl (gS rfl (gS rfl (gS rfl (gS rfl (gS rfl g0)))))))))) (gS rfl (gS rfl (gS rfl (gS rfl (gS rfl (gS rfl (gS rfl (gS rfl (gS rfl g0))))))))) (gS rfl (gS rfl (gS rfl (gS rfl (gS rfl (gS rfl (gS rfl (gS rfl g0)))))))) (gS rfl (gS rfl (gS rfl (gS rfl (gS rfl (gS rfl (gS rfl g0))))))) (gS rfl (gS rfl (gS rfl (gS rfl (gS rfl (gS rfl g0)))))) (gS rfl (gS rfl (gS rfl (gS rfl (gS rfl g0))))) (gS rfl (gS rfl (gS rfl (gS rfl g0)))) (gS rfl (gS rfl (gS rfl g0))) g0 (fun g => ?_)
                                              refine c_seq (fun K54 hK54 => ?_)
                                              exact (by
                                                refine c_region ?_
                                                refine l_step (y_moveV (et (gS rfl (gS rfl (gS rfl (gS rfl (gS rfl (gS rfl (gS rfl (gS rfl g0)))))))) rfl)) ?_
                                                refine l_step (y_moveV (et (gS rfl (gS rfl (gS rfl (gS rfl (gS rfl (gS rfl (gS rfl g0))))))) rfl)) ?_
                                                refine l_step (y_fld fld_117_0 (et (gS rfl (gS rfl g0)) rfl)) ?_
                                                refine l_step (y_loadR agg_28 sz_28 (et g0 rfl) (by rw [length_bL, length_be]) (at1R (k52.row (RowIn.app _ _)))) ?_
                                                refine l_eff (e_callV cal_83 (aC (et g0 rfl) aN) (fromBytes_spec _ _)) (fun v55 w55 h55 => ?_)
                                                obtain ⟨rfl, u55⟩ := h55
                                                replace k52 := k52.up u55
                                                replace hT := hT.up u55
                                                replace U := U.tr u55
                                                refine l_eff (e_callV cal_84 (aC (et (gS rfl (gS rfl (gS rfl (gS rfl g0)))) rfl) (aC (et (gS rfl (gS rfl (gS rfl g0))) rfl) (aC (et g0 rfl) aN))) (v_slot hT.vl hf3.ok i9 l[i].slots[j].1 hha3 hkb 1 (.inr ⟨by omega, rfl⟩))) (fun v56 w56 h56 => ?_)
                                                obtain ⟨j9, y9, col4, cs4, V4, rfl, hT4, hLs, hy9, hya, hyk⟩ := h56
                                                have nc52 := (hT4.col b52 k52.lt).trans nc52
                                                replace k52 := k52.ch hT4.go.ch (by intro hm; omega)
                                                replace hT := hT.trans hT4
                                                replace U := U.cc hT4.go.ch (by intro b hb; exact .inl trivial)
                                                obtain ⟨bs9, cs9, cap8, hSS⟩ := hT4.vl.slot hy9
                                                have hj9 := hSS.lt
                                                have hsc := hSS.col
                                                have hsk := hSS.ok
                                                have hsf := hSS.fit
                                                have hb8 := hLs.ok.bd.slots
                                                refine l_step (y_moveV (et g0 rfl)) ?_
                                                refine l_step (y_ext (et g0 rfl) rfl) ?_
                                                refine l_step (y_ext (et (gS rfl g0) rfl) rfl) ?_
                                                refine l_step (y_assignV (et (gS rfl g0) rfl)) ?_
                                                refine l_step (y_assignV (et (gS rfl g0) rfl)) ?_
                                                refine l_nil ?_
                                                refine hK54 _ _ ?_
                                                refine fg10 0 1 7 31 32 87 88 89 10 11 (gS rfl (gS rfl (gS rfl (gS rfl (gS rfl (gS rfl (gS rfl (gS rfl (gS rfl (gS rfl (gS rfl (gS rfl (gS rfl (gS rfl (gS rfl (gS rfl (gS rfl (gS rfl (gS rfl g0))))))))))))))))))) (gS rfl (gS rfl (gS rfl (gS rfl (gS rfl (gS rfl (gS rfl (gS rfl (gS rfl (gS rfl (gS rfl (gS rfl (gS rfl (gS rfl (gS rfl (gS rfl (gS rfl (gS rfl g0)))))))))))))))))) (gS rfl (gS rfl (gS rfl (gS rfl (gS rfl (gS rfl (gS rfl (gS rfl (gS rfl (gS rfl (gS rfl (gS rfl (gS rfl (gS rfl (gS rfl (gS rfl (gS rfl g0))))))))))))))))) (gS rfl (gS rfl (gS rfl (gS rfl (gS rfl (gS rfl (gS rfl (gS rfl (gS rfl (gS rfl (gS rfl (gS rfl (gS rfl (gS rfl (gS rfl (gS rfl g0)))))))))))))))) (gS rfl (gS rfl (gS rfl (gS rfl (gS rfl (gS rfl (gS rfl (gS rfl (gS rfl (gS rfl (gS rfl (gS rfl (gS rfl (gS rfl (gS rfl g0))))))))))))))) (gS rfl (gS rfl (gS rfl (gS rfl (gS rfl (gS rfl (gS rfl (gS rfl (gS rfl (gS rfl (gS rfl (gS rfl (gS rfl (gS rfl g0)))))))))))))) (gS rfl (gS rfl (gS rfl (gS rfl (gS rfl (gS rfl (gS rfl (gS rfl (gS rfl (gS rfl (gS rfl (gS rfl (gS rfl g0))))))))))))) (gS rfl (gS rfl (gS rfl (gS rfl (gS rfl (gS rfl (gS rfl (gS rfl (gS rfl (gS rfl (gS rfl (gS rfl g0)))))))))))) (gS rfl (gS rfl (gS rfl (gS rfl (gS rfl (gS rfl (gS rfl (gS rfl (gS rfl (gS rfl (gS rfl g0))))))))))) (gS rfl g0) (fun g => ?_)
                                                refine c_seq (fun K57 hK57 => ?_)
                                                exact (by
                                                  refine c_draw Up 10 [(0, true), (1, true), (2, true), (3, true), (4, true), (5, true), (6, true), (7, false), (8, true), (9, true), (10, false)] (by kernel_rfl) (fun w58 hu => ⟨Up.refl _, ?_⟩)
                                                  replace k52 := k52.up hu
                                                  replace hT := hT.up hu
                                                  replace hSS := hSS.up hu
                                                  replace U := U.tr hu
                                                  have SU := Up.refl w58
                                                  refine p_step (by exact rfl) (y_moveV (et (gS rfl (gS rfl (gS rfl (gS rfl (gS rfl (gS rfl (gS rfl (gS rfl (gS rfl g0))))))))) rfl)) ?_
                                                  refine p_step (by exact rfl) (y_nil (et g0 rfl)) ?_
                                                  refine p_step (by exact rfl) (y_fld fld_84_1 (et g0 rfl)) ?_
                                                  refine p_step (by exact rfl) (y_load1 one_77 (et g0 rfl) (atS (hT.vl.c1 hSS.sl rfl))) ?_
                                                  refine p_step (by exact rfl) (y_moveV (et (gS rfl (gS rfl (gS rfl (gS rfl g0)))) rfl)) ?_
                                                  refine p_step (by exact rfl) (y_fld fld_117_1 (et (gS rfl (gS rfl (gS rfl (gS rfl (gS rfl (gS rfl g0)))))) rfl)) ?_
                                                  refine p_step (by exact rfl) (y_loadR agg_28 sz_28 (et g0 rfl) (by rw [length_bL, length_be]) (atSR (k52.row os_val))) ?_
                                                  refine p_eff (by exact rfl) (e_callV cal_83 (aC (et g0 rfl) aN) (fromBytes_spec _ _)) (fun v59 w59 h59 => ?_)
                                                  obtain ⟨rfl, u59⟩ := h59
                                                  replace k52 := k52.up u59
                                                  replace hT := hT.up u59
                                                  replace hSS := hSS.up u59
                                                  replace U := U.tr u59
                                                  refine ⟨.inr (SU.tr u59), ?_⟩
                                                  replace SU := SU.tr u59
                                                  refine p_step (by exact rfl) (y_idxS Hvaa.underlying77 sz_176 (et (gS rfl (gS rfl (gS rfl (gS rfl g0)))) rfl) (et (gS rfl (gS rfl (gS rfl g0))) rfl) ?_ ?_) ?_
                                                  omega
                                                  omega
                                                  refine p_step (by exact rfl) (y_fld fld_176_2 (et g0 rfl)) ?_
                                                  refine p_effN (by exact rfl) (e_store sz_65 (et g0 rfl) (cellsV (et (gS rfl (gS rfl g0)) rfl) rfl) rfl (by exact one_uL _) hSS.kA (by simp; omega)) (fun v60 w60 h60 => ?_)
                                                  obtain ⟨rfl, x60⟩ := h60
                                                  have hv60 := hT.setS hSS (j := 5) (y := { y9 with val := l[i].slots[j].2 }) (by simp) x60 es_v (Nat.le_of_ble_eq_true rfl) ⟨hsk.acct, hsk.key, hvb, hsk.orig⟩
                                                  replace k52 := k52.ch x60.ch (by intro hm; first | omega | (subst hm; omega))
                                                  replace hT := hv60
                                                  replace U := U.cc x60.ch (by intro b hb; exact .inl trivial)
                                                  obtain ⟨bs7, cs7, cap7, hS7⟩ := hT.vl.slot (i := j9) (x := { y9 with val := l[i].slots[j].2 }) (set_at hj9)
                                                  have hj7 := hS7.lt
                                                  have hsc7 := hS7.col
                                                  have hsf7 := hS7.fit
                                                  refine ⟨.inl rfl, ?_⟩
                                                  refine p_nil ?_
                                                  refine hK57 _ _ ?_
                                                  refine fg9 0 1 7 31 32 87 88 89 11 (gS rfl (gS rfl (gS rfl (gS rfl (gS rfl (gS rfl (gS rfl (gS rfl (gS rfl (gS rfl (gS rfl (gS rfl (gS rfl (gS rfl (gS rfl (gS rfl (gS rfl (gS rfl (gS rfl g0))))))))))))))))))) (gS rfl (gS rfl (gS rfl (gS rfl (gS rfl (gS rfl (gS rfl (gS rfl (gS rfl (gS rfl (gS rfl (gS rfl (gS rfl (gS rfl (gS rfl (gS rfl (gS rfl (gS rfl g0)))))))))))))))))) (gS rfl (gS rfl (gS rfl (gS rfl (gS rfl (gS rfl (gS rfl (gS rfl (gS rfl (gS rfl (gS rfl (gS rfl (gS rfl (gS rfl (gS rfl (gS rfl (gS rfl g0))))))))))))))))) (gS rfl (gS rfl (gS rfl (gS rfl (gS rfl (gS rfl (gS rfl (gS rfl (gS rfl (gS rfl (gS rfl (gS rfl (gS rfl (gS rfl (gS rfl (gS rfl g0)))))))))))))))) (gS rfl (gS rfl (gS rfl (gS rfl (gS rfl (gS rfl (gS rfl (gS rfl (gS rfl (gS rfl (gS rfl (gS rfl (gS rfl (gS rfl (gS rfl g0))))))))))))))) (gS rfl (gS rfl (gS rfl (gS rfl (gS rfl (gS rfl (gS rfl (gS rfl (gS rfl (gS rfl (gS rfl (gS rfl (gS rfl (gS rfl g0)))))))))))))) (gS rfl (gS rfl (gS rfl (gS rfl (gS rfl (gS rfl (gS rfl (gS rfl (gS rfl (gS rfl (gS rfl (gS rfl (gS rfl g0))))))))))))) (gS rfl (gS rfl (gS rfl (gS rfl (gS rfl (gS rfl (gS rfl (gS rfl (gS rfl (gS rfl (gS rfl (gS rfl g0)))))))))))) (gS rfl (gS rfl (gS rfl (gS rfl (gS rfl (gS rfl (gS rfl (gS rfl (gS rfl (gS rfl g0)))))))))) (fun g => ?_)
                                                  refine c_draw Up 15 [(0, true), (1, true), (2, true), (3, true), (4, true), (5, true), (6, true), (7, true), (8, true), (9, true), (10, true), (11, true), (12, true), (13, true), (14, true), (15, false)] (by kernel_rfl) (fun w61 hu => ⟨Up.refl _, ?_⟩)
                                                  replace k52 := k52.up hu
                                                  replace hT := hT.up hu
                                                  replace hS7 := hS7.up hu
                                                  replace U := U.tr hu
                                                  have SU := Up.refl w61
                                                  exact (by
                                                    refine p_step (by exact rfl) (y_moveV (et (gS rfl (gS rfl (gS rfl (gS rfl (gS rfl (gS rfl (gS rfl (gS rfl g0)))))))) rfl)) ?_
                                                    refine p_step (by exact rfl) (y_nil (et g0 rfl)) ?_
                                                    refine p_step (by exact rfl) (y_fld fld_84_1 (et g0 rfl)) ?_
                                                    refine p_step (by exact rfl) (y_load1 one_77 (et g0 rfl) (atS (hT.vl.c1 hS7.sl rfl))) ?_
                                                    refine p_step (by exact rfl) (y_moveV (et (gS rfl (gS rfl (gS rfl (gS rfl g0)))) rfl)) ?_
                                                    refine p_step (by exact rfl) (y_moveV (et (gS rfl (gS rfl (gS rfl (gS rfl (gS rfl (gS rfl (gS rfl (gS rfl (gS rfl (gS rfl (gS rfl (gS rfl (gS rfl g0))))))))))))) rfl)) ?_
                                                    refine p_step (by exact rfl) (y_nil (et g0 rfl)) ?_
                                                    refine p_step (by exact rfl) (y_fld fld_84_1 (et g0 rfl)) ?_
                                                    refine p_step (by exact rfl) (y_load1 one_77 (et g0 rfl) (atS (hT.vl.c1 hS7.sl rfl))) ?_
                                                    refine p_step (by exact rfl) (y_moveV (et (gS rfl (gS rfl (gS rfl (gS rfl (gS rfl (gS rfl (gS rfl (gS rfl (gS rfl g0))))))))) rfl)) ?_
                                                    refine p_step (by exact rfl) (y_idxS Hvaa.underlying77 sz_176 (et (gS rfl g0) rfl) (et g0 rfl) ?_ ?_) ?_
                                                    omega
                                                    exact Int.ofNat_lt.2 hj7
                                                    refine p_step (by exact rfl) (y_fld fld_176_2 (et g0 rfl)) ?_
                                                    refine p_step (by exact rfl) (y_loadR agg_65 sz_65 (et g0 rfl) rfl (atSR (hS7.rVal (by simp)))) ?_
                                                    refine p_step (by exact rfl) (y_idxS Hvaa.underlying77 sz_176 (et (gS rfl (gS rfl (gS rfl (gS rfl (gS rfl (gS rfl (gS rfl (gS rfl (gS rfl g0))))))))) rfl) (et (gS rfl (gS rfl (gS rfl (gS rfl (gS rfl (gS rfl (gS rfl (gS rfl g0)))))))) rfl) ?_ ?_) ?_
                                                    omega
                                                    exact Int.ofNat_lt.2 hj7
                                                    refine p_step (by exact rfl) (y_fld fld_176_3 (et g0 rfl)) ?_
                                                    refine p_effN (by exact rfl) (e_store sz_65 (et g0 rfl) (cellsV (et (gS rfl (gS rfl g0)) rfl) rfl) rfl (by exact one_uL _) hS7.kA (by simp; omega)) (fun v62 w62 h62 => ?_)
                                                    obtain ⟨rfl, x62⟩ := h62
                                                    have hv62 := hT.setS hS7 (j := 9) (y := { y9 with val := l[i].slots[j].2, orig := l[i].slots[j].2 }) (by simp) x62 es_o (Nat.le_of_ble_eq_true rfl) ⟨hsk.acct, hsk.key, hvb, hvb⟩
                                                    replace k52 := k52.ch x62.ch (by intro hm; first | omega | (subst hm; omega))
                                                    replace hT := hv62
                                                    replace U := U.cc x62.ch (by intro b hb; exact .inl trivial)
                                                    rw [set2] at hT
                                                    have hfv6 : FV (l.take i ++ [({ l[i] with slots := l[i].slots.take (j + 1) } : YAcct)]) ({ V4 with slots := V4.slots.set j9 { y9 with val := l[i].slots[j].2, orig := l[i].slots[j].2 } } : EV) (16 * i + (j + 1)) := by
                                                      have h9 := fv_slot (B := ({ l[i] with slots := l[i].slots.take j } : YAcct)) (v := l[i].slots[j].2) hf3 hLs hax.1 (wok_take hok hil) hy9 (hya.trans hax.2.symm) hyk (slr_take hAk.sl hjl) rfl rfl
                                                      rw [← List.take_append_getElem hjl]
                                                      exact h9
                                                    have hax6 : hasA ({ V4 with slots := V4.slots.set j9 { y9 with val := l[i].slots[j].2, orig := l[i].slots[j].2 } } : EV) l[i].addr ∧ ai ({ V4 with slots := V4.slots.set j9 { y9 with val := l[i].slots[j].2, orig := l[i].slots[j].2 } } : EV) l[i].addr = i9 := ⟨hLs.ext.hasA hax.1, (hLs.ext.ai hax.1).trans hax.2⟩
                                                    refine ⟨.inl rfl, ?_⟩
                                                    refine p_nil ?_
                                                    refine hQ50 _ _ _ (in_normal ?_)
                                                    refine hK49 _ _ ?_
                                                    refine fg8 0 1 7 31 32 87 88 89 (gS rfl (gS rfl (gS rfl (gS rfl (gS rfl (gS rfl (gS rfl (gS rfl (gS rfl (gS rfl (gS rfl (gS rfl (gS rfl (gS rfl (gS rfl (gS rfl (gS rfl (gS rfl (gS rfl (gS rfl (gS rfl (gS rfl (gS rfl g0))))))))))))))))))))))) (gS rfl (gS rfl (gS rfl (gS rfl (gS rfl (gS rfl (gS rfl (gS rfl (gS rfl (gS rfl (gS rfl (gS rfl (gS rfl (gS rfl (gS rfl (gS rfl (gS rfl (gS rfl (gS rfl (gS rfl (gS rfl (gS rfl g0)))))))))))))))))))))) (gS rfl (gS rfl (gS rfl (gS rfl (gS rfl (gS rfl (gS rfl (gS rfl (gS rfl (gS rfl (gS rfl (gS rfl (gS rfl (gS rfl (gS rfl (gS rfl (gS rfl (gS rfl (gS rfl (gS rfl (gS rfl g0))))))))))))))))))))) (gS rfl (gS rfl (gS rfl (gS rfl (gS rfl (gS rfl (gS rfl (gS rfl (gS rfl (gS rfl (gS rfl (gS rfl (gS rfl (gS rfl (gS rfl (gS rfl (gS rfl (gS rfl (gS rfl (gS rfl g0)))))))))))))))))))) (gS rfl (gS rfl (gS rfl (gS rfl (gS rfl (gS rfl (gS rfl (gS rfl (gS rfl (gS rfl (gS rfl (gS rfl (gS rfl (gS rfl (gS rfl (gS rfl (gS rfl (gS rfl (gS rfl g0))))))))))))))))))) (gS rfl (gS rfl (gS rfl (gS rfl (gS rfl (gS rfl (gS rfl (gS rfl (gS rfl (gS rfl (gS rfl (gS rfl (gS rfl (gS rfl (gS rfl (gS rfl (gS rfl (gS rfl g0)))))))))))))))))) (gS rfl (gS rfl (gS rfl (gS rfl (gS rfl (gS rfl (gS rfl (gS rfl (gS rfl (gS rfl (gS rfl (gS rfl (gS rfl (gS rfl (gS rfl (gS rfl (gS rfl g0))))))))))))))))) (gS rfl (gS rfl (gS rfl (gS rfl (gS rfl (gS rfl (gS rfl (gS rfl (gS rfl (gS rfl (gS rfl (gS rfl (gS rfl (gS rfl (gS rfl (gS rfl g0)))))))))))))))) (fun g => ?_)
                                                    refine c_region ?_
                                                    exact (by
                                                      refine l_step (y_add (et g0 rfl) rfl (addIN (y := 1) ?_)) ?_
                                                      omega
                                                      refine l_step (y_moveV (et g0 rfl)) ?_
                                                      refine l_nil ?_
                                                      refine fK8 0 1 7 31 32 87 88 89 (gS rfl (gS rfl (gS rfl (gS rfl (gS rfl (gS rfl (gS rfl (gS rfl (gS rfl g0))))))))) (gS rfl (gS rfl (gS rfl (gS rfl (gS rfl (gS rfl (gS rfl (gS rfl g0)))))))) (gS rfl (gS rfl (gS rfl (gS rfl (gS rfl (gS rfl (gS rfl g0))))))) (gS rfl (gS rfl (gS rfl (gS rfl (gS rfl (gS rfl g0)))))) (gS rfl (gS rfl (gS rfl (gS rfl (gS rfl g0))))) (gS rfl (gS rfl (gS rfl (gS rfl g0)))) (gS rfl (gS rfl (gS rfl g0))) g0 (fun g => ?_)
                                                      exact hK45 (l[i].slots.length - ((j + 1))) _ _ (by omega) ⟨g, _, _, _, (j + 1), rfl, rfl, by omega, hT, hfv6, hax6⟩)))))
                                          · skip
                                            
                                            have hje : j = l[i].slots.length := by have := of_decide_eq_false cB4; omega
                                            have hfn : FV (l.take (i + 1)) V3 (16 * (i + 1)) := by
                                              have h9 := hf3
                                              rw [hje, List.take_length] at h9
                                              have e9 : l.take (i + 1) = l.take i ++ [l[i]] := (List.take_append_getElem hil).symm
                                              rw [e9]
                                              exact ⟨h9.ok, h9.abs, h9.og, h9.jr, h9.mr, h9.te, h9.na, by have := h9.ns; omega⟩
                                            refine c_exit ?_
                                            refine hQ44 _ _ _ (in_exit ?_)
                                            refine hQ28 _ _ _ (in_normal ?_)
                                            refine hK27 _ _ ?_
                                            refine fg4 0 1 31 32 (gS rfl (gS rfl (gS rfl (gS rfl (gS rfl (gS rfl (gS rfl (gS rfl g0)))))))) (gS rfl (gS rfl (gS rfl (gS rfl (gS rfl (gS rfl (gS rfl g0))))))) (gS rfl (gS rfl (gS rfl (gS rfl (gS rfl g0))))) (gS rfl (gS rfl (gS rfl (gS rfl g0)))) (fun g => ?_)
                                            exact (by
                                              refine c_region ?_
                                              refine l_step (y_add (et g0 rfl) rfl (addIN (y := 1) ?_)) ?_
                                              omega
                                              refine l_step (y_moveV (et g0 rfl)) ?_
                                              refine l_nil ?_
                                              refine fK4 0 1 31 32 (gS rfl (gS rfl (gS rfl (gS rfl (gS rfl g0))))) (gS rfl (gS rfl (gS rfl (gS rfl g0)))) (gS rfl (gS rfl (gS rfl g0))) g0 (fun g => ?_)
                                              exact hK23 (l.length - ((i + 1))) _ _ (by omega) ⟨g, _, _, _, _, (i + 1), rfl, rfl, by omega, hT, hfn⟩)))))))))
                      · skip
                        
                        have hie : i = l.length := by have := of_decide_eq_false cB3; omega
                        subst hie
                        rw [List.take_length] at hfv
                        refine c_exit ?_
                        refine hQ22 _ _ _ (in_exit ?_)
                        refine hK20 _ _ ?_
                        refine fg0 (fun g => ?_)
                        refine c_seq (fun K63 hK63 => ?_)
                        exact (by
                          refine c_region ?_
                          refine l_step y_assignC ?_
                          refine l_nil ?_
                          refine hK63 _ _ ?_
                          refine c_ret ?_
                          repeat with_reducible refine then_ret ?_
                          refine ret1 rfl (res_tmp (et g0 rfl)) ?_
                          exact ⟨true, rfl, ⟨fun _ => hok, fun _ => rfl⟩, fun h9 => (by cases h9), fun _ => ⟨_, _, _, _, hT, by have e9 : 16 * l.length ≤ 128 := (by omega); exact ⟨hfv.ok, hfv.abs, hfv.og, hfv.jr, hfv.mr, hfv.te, hfv.na, Nat.le_trans hfv.ns e9⟩⟩⟩)))))))
end Go.Proofs.YgvaawGreat
