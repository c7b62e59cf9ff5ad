import Derived.Test.YgvaawGreatE11
set_option maxRecDepth 100000
set_option maxHeartbeats 4000000
set_option linter.unusedSimpArgs false
set_option linter.unusedVariables false
namespace Go.Proofs.YgvaawGreat
open Go
section
variable {w0 w w' : World} {H0 H : Store} {col0 col : Nat → Nat} {bc : Nat} {cs0 cs : Array Value} {V : EV}
/-- a new transient table -/
theorem VT.newT (h : VT w0 H0 col0 bc cs0 w H col cs V) (hml : V.marks.length ≤ 16384) {b : Nat} {c : Array Value} {T : Nat → Int} (hb : Blk w b c) (h0 : col b = 0) (hh : ¬ H.has b) (hf : w0.heap.size ≤ b) (hz : c.size = 16384) (hT : ∀ p, p < 16384 → c[p]? = some (.int .i32 (T p))) (x : Wr w w' bc (spl cs 27018 [.slice (some ⟨b, 0, none⟩) 16384 16384])) : ∃ col2, VT w0 H0 col0 bc cs0 w' H col2 (spl cs 27018 [.slice (some ⟨b, 0, none⟩) 16384 16384]) { V with tm := true, ttb := T } ∧ ∀ q, q ≠ b → col2 q = col q := by
  have hlt := hb.lt
  have hbc : b ≠ bc := fun e => by have := h.vl.colC; rw [e] at h0; omega
  have g1 : ∀ q, col q ≠ 0 → (fun q => if q = b then 7 else col q) q = col q := fun q hq => by
    show (if q = b then 7 else col q) = col q
    rw [if_neg (fun e => hq (by rw [e]; exact h0))]
  have g2 : ∀ q, w'.heap.size ≤ q → (fun q => if q = b then 7 else col q) q = 0 := fun q hq => by
    show (if q = b then 7 else col q) = 0
    have := x.ch.size
    rw [if_neg (by omega)]
    exact h.vl.new q (by omega)
  have g3 : ∀ q, H.has q → (fun q => if q = b then 7 else col q) q = 0 := fun q hq => by
    show (if q = b then 7 else col q) = 0
    rw [if_neg (fun e => hh (by rw [← e]; exact hq))]
    exact h.vl.kept q hq
  obtain ⟨a1, a2, a3, a4, a5, a6, a7, a8, a9, b1, b2, b3, b4, b5, b6, b7⟩ := (h.vl.m 0).parts x g1 g2 g3 (by omega)
  refine ⟨fun q => if q = b then 7 else col q, ⟨⟨a1, a2, a3, a4, g2, g3, a5 (by decide) (by decide), a6 (by decide) (by decide), a7 (by decide) (by decide), a8 (by decide) (by decide), a9 (by decide) (by decide), ⟨_, b, c, sp0 (by rw [h.vl.size]; decide), (fun e => by cases e), fun _ => ⟨rfl, hb.ch x.ch hbc, hz, hT, if_pos rfl⟩⟩, b2, b3, b4 hml, b5 (by decide), b6 (by decide), b7⟩, h.out.put (by decide) (by decide), ⟨h.go.ch.cc x.ch (fun q hq => ?_), a1, h.go.le, h.go.new⟩, fun q hq => ?_⟩, fun q hq => if_neg hq⟩
  · by_cases hlt2 : q < w0.heap.size
    · left; rw [← h.col q hlt2, hq, h.vl.colC]; decide
    · right; omega
  · show (if q = b then 7 else col q) = col0 q
    rw [if_neg (by omega)]
    exact h.col q hq
theorem VT.stTt (h : VT w0 H0 col0 bc cs0 w H col cs V) {b : Nat} {c : Array Value} (hq : TQ w col cs V b c) (ht : V.tm = true) {p o : Nat} {q : Int} (hp : p < 16384) (e : o = p) (x : Wr w w' b (spl c o [.int .i32 q])) : VT w0 H0 col0 bc cs0 w' H col cs { V with ttb := updT V.ttb p q } := by
  subst e
  have m := h.vl.tr (c0 := 7) x.ch (fun k hk => by rw [hk]; exact hq.col) (by decide) (by decide)
  refine h.wr x (by rw [hq.col]; decide) ⟨m.fz, m.kC, m.size, m.colC, m.new, m.kept, m.acc (by decide), m.slo (by decide), m.jou (by decide), m.log (by decide), m.tem (by decide), ⟨_, b, _, hq.sl, (fun e => by have e : V.tm = false := e; rw [ht] at e; cases e), fun _ => ⟨rfl, x.blk, by rw [size_spl]; exact hq.sz, fun r hr => ?_, hq.col⟩⟩, m.atb, m.stb, m.mrk, m.nmk, m.ref, m.tb⟩ (Out.refl _ _ _)
  show _ = some (Value.int .i32 (if r = o then q else V.ttb r))
  by_cases e : r = o
  · rw [e, if_pos rfl]
    exact sp0 (by rw [hq.sz]; omega)
  · rw [if_neg e, sp1 e]
    exact hq.get r hr
end
def ttN (n : Nat) : Nat → Int := fun p => if p < n then -1 else 0
theorem ttN_next (n : Nat) : updT (ttN n) n (-1) = ttN (n + 1) := by
  funext p
  unfold updT ttN
  by_cases h : p = n
  · rw [if_pos h, if_pos (by omega)]
  · rw [if_neg h]
    by_cases h2 : p < n
    · rw [if_pos h2, if_pos (by omega)]
    · rw [if_neg h2, if_neg (by omega)]
theorem tt_zero (n : Nat) (p : Nat) (hp : p < n) : (madeCells (Value.int .i32 0).cells n)[p]? = some (.int .i32 (ttN 0 p)) := by
  unfold ttN madeCells
  rw [if_neg (by omega)]
  have e : (Value.int .i32 0).cells = #[Value.int .i32 0] := rfl
  rw [e]
  simp [hp, Nat.mod_one]
theorem Tab.empty (n : Nat) (hm : Nat → Nat) : Tab 16384 (ttN 16384) 0 hm := by
  have h : ∀ p, p < 16384 → ttN 16384 p = -1 := fun p hp => if_pos hp
  exact ⟨fun p hp => .inl (h p hp), fun i hi => absurd hi (by omega), fun p q hp hq e h0 => by rw [h p hp] at h0; omega⟩
theorem VOk.newT {V : EV} (h : VOk V) (ht : V.tm = false) : VOk { V with tm := true, ttb := ttN 16384 } := by
  have h0 := h.t0 ht
  refine ⟨⟨h.bd.accts, h.bd.slots, h.bd.journal, h.bd.marks, h.bd.mkb, h.bd.ref, h.bd.logs, h.bd.temps⟩, h.a, h.ad, h.s, h.sd, fun _ => ?_, (fun e => by cases e), h.td, h.sa, h.ta, (fun e he => ⟨(h.jr e he).a, (h.jr e he).s, (h.jr e he).t⟩), h.jl⟩
  show Tab 16384 (ttN 16384) V.temps.length (hmT V.temps)
  rw [h0]
  exact Tab.empty 0 _
theorem v_tempOf1 {w : World} {H : Store} {col : Nat → Nat} {bc : Nat} {cs : Array Value} {V : EV} (hV : VL w H col bc cs V) (ho : VOk V) (a k : Nat) (ha : a < A160) (hk : k < W256) (na nt : Nat) (hr : (hasA V a ∧ na = 0) ∨ (V.accts.length < 2560 ∧ na = 1)) (hrt : (hasT V a k ∧ nt = 0) ∨ (V.temps.length < 12288 ∧ nt = 1)) (htm0 : V.tm = true) :
    Ret 383 [.pointer (some ⟨bc, 2435, none⟩), aV a, wV k] w (fun v w' => ∃ (i : Nat) (x : ETemp) (col' : Nat → Nat) (cs' : Array Value) (V1 : EV), v = .tuple #[.int .i32 (i : Nat), .bool true] ∧ VT w H col bc cs w' H col' cs' V1 ∧ Lay V V1 na 0 nt ∧ hasA V1 a ∧ V1.temps[i]? = some x ∧ x.acct = ai V1 a ∧ x.key = k) := by
  have hT := VT.refl hV
  have hnw := hV.new
  have hcC := hV.colC
  have hml := ho.bd.marks
  obtain ⟨lt0, lc0, hlT⟩ := hV.lenT
  have htb := ho.bd.temps
  refine enter (n := 107) Hvaa.func383 rfl rfl (Nat.le_of_ble_eq_true rfl) ?_
  have U : Ch (fun _ => True) w w := Ch.refl _ w
  refine c_seq (fun K1 hK1 => ?_)
  exact (by
    refine c_region ?_
    refine l_eff (e_boxV (et (gS rfl g0) rfl)) (fun v2 w2 h2 => ?_)
    obtain ⟨b2, rfl, n2⟩ := h2
    have f2 : w.heap.size ≤ b2 := Nat.le_trans U.size n2.fresh
    replace hT := hT.up n2.up
    replace U := U.tr n2.up
    have k2 := n2.blk
    replace k2 : Blk w2 b2 (bL (be 20 a)).toArray := k2
    have nc2 : col b2 = 0 := hnw _ f2
    refine l_eff (e_boxV (et (gS rfl (gS rfl (gS rfl g0))) rfl)) (fun v3 w3 h3 => ?_)
    obtain ⟨b3, rfl, n3⟩ := h3
    have d2_3 : b2 < b3 := Nat.lt_of_lt_of_le k2.lt n3.fresh
    have f3 : w.heap.size ≤ b3 := Nat.le_trans U.size n3.fresh
    replace k2 := k2.up n3.up
    replace hT := hT.up n3.up
    replace U := U.tr n3.up
    have k3 := n3.blk
    have nc3 : col b3 = 0 := hnw _ f3
    refine l_step y_assignC ?_
    refine l_step y_assignC ?_
    refine l_nil ?_
    refine hK1 _ _ ?_
    refine fg3 0 4 5 (gS rfl (gS rfl (gS rfl (gS rfl g0)))) (gS rfl (gS rfl (gS rfl g0))) (gS rfl (gS rfl g0)) (fun g => ?_)
    refine c_seq (fun K4 hK4 => ?_)
    exact (by
      refine c_region ?_
      refine l_step (y_moveV (et (gS rfl (gS rfl g0)) rfl)) ?_
      refine l_step (y_loadB agg_25 sz_25 (et (gS rfl (gS rfl g0)) rfl) (by rw [List.size_toArray, length_bL, length_be]) (at1B k2)) ?_
      refine l_eff (e_callV cal_159 (aC (et (gS rfl g0) rfl) (aC (et g0 rfl) aN)) (v_findAcct hT.vl ho a ha)) (fun v5 w5 h5 => ?_)
      obtain ⟨i5, f5, rfl, hfd, u5⟩ := h5
      replace k2 := k2.up u5
      replace k3 := k3.up u5
      replace hT := hT.up u5
      replace U := U.tr u5
      refine l_step (y_moveV (et g0 rfl)) ?_
      refine l_step (y_ext (et g0 rfl) rfl) ?_
      refine l_step (y_ext (et (gS rfl g0) rfl) rfl) ?_
      refine l_step (y_assignV (et (gS rfl g0) rfl)) ?_
      refine l_step (y_assignV (et (gS rfl g0) rfl)) ?_
      refine l_nil ?_
      refine hK4 _ _ ?_
      refine fg4 0 4 5 8 (gS rfl (gS rfl (gS rfl (gS rfl (gS rfl (gS rfl (gS rfl (gS rfl (gS rfl (gS rfl g0)))))))))) (gS rfl (gS rfl (gS rfl (gS rfl (gS rfl (gS rfl (gS rfl (gS rfl (gS rfl g0))))))))) (gS rfl (gS rfl (gS rfl (gS rfl (gS rfl (gS rfl (gS rfl (gS rfl g0)))))))) (gS rfl g0) (fun g => ?_)
      refine c_seq (fun K6 hK6 => ?_)
      exact (by
        refine c_region ?_
        refine l_step y_assignC ?_
        refine l_nil ?_
        refine hK6 _ _ ?_
        refine c_seq (fun K7 hK7 => ?_)
        refine c_seq (fun K8 hK8 => ?_)
        exact (by
          refine c_region ?_
          refine l_step (y_moveV (et (gS rfl g0) rfl)) ?_
          refine l_step (y_geq (et g0 rfl) rfl) ?_
          refine l_nil ?_
          refine hK8 _ _ ?_
          refine fg6 0 4 5 8 10 22 (gS rfl (gS rfl (gS rfl (gS rfl (gS rfl (gS rfl g0)))))) (gS rfl (gS rfl (gS rfl (gS rfl (gS rfl g0))))) (gS rfl (gS rfl (gS rfl (gS rfl g0)))) (gS rfl (gS rfl (gS rfl g0))) (gS rfl (gS rfl g0)) g0 (fun g => ?_)
          refine c_cond (et g0 rfl) (fun cB1 => ?_) (fun cB1 => ?_)
          · skip
            
            obtain ⟨k9, ⟨x9, hx9, hxa⟩, hk9, rfl, rfl⟩ := hfd.pos (by have := of_decide_eq_true cB1; omega)
            have hb9 := ho.bd.accts
            have hai := ai_eq ho hx9 hxa
            have hhA := hasA_of hx9 hxa
            exact (by
              refine c_region ?_
              refine l_step (y_moveV (et (gS rfl (gS rfl (gS rfl (gS rfl (gS rfl g0))))) rfl)) ?_
              refine l_step (y_moveV (et (gS rfl (gS rfl (gS rfl g0))) rfl)) ?_
              refine l_step (y_loadB agg_65 sz_65 (et (gS rfl (gS rfl (gS rfl (gS rfl (gS rfl g0))))) rfl) (by first | (simp only [Value.cells, hV, aV, bV, wV, wL, List.size_toArray, length_bL, length_uL, length_be, size_spl, List.length_cons, List.length_nil, List.length_replicate, Nat.zero_add, Nat.reduceAdd, Nat.reduceLeDiff, Nat.le_refl]; done) | rfl) (at1B k3)) ?_
              refine l_eff (e_callV cal_382 (aC (et (gS rfl (gS rfl g0)) rfl) (aC (et (gS rfl g0) rfl) (aC (et g0 rfl) aN))) (v_findTemp hT.vl ho k9 k (by omega) hk)) (fun v10 w10 h10 => ?_)
              obtain ⟨⟨j10, g10⟩, rfl, hfe, u10⟩ := h10
              replace k2 := k2.up u10
              replace k3 := k3.up u10
              replace hT := hT.up u10
              replace U := U.tr u10
              refine l_step (y_moveV (et g0 rfl)) ?_
              refine l_step (y_ext (et g0 rfl) rfl) ?_
              refine l_step (y_ext (et (gS rfl g0) rfl) rfl) ?_
              refine l_step (y_assignV (et (gS rfl g0) rfl)) ?_
              refine l_nil ?_
              refine hK7 _ _ ?_
              refine fg4 0 4 5 10 (gS rfl (gS rfl (gS rfl (gS rfl (gS rfl (gS rfl (gS rfl (gS rfl (gS rfl (gS rfl (gS rfl (gS rfl (gS rfl g0))))))))))))) (gS rfl (gS rfl (gS rfl (gS rfl (gS rfl (gS rfl (gS rfl (gS rfl (gS rfl (gS rfl (gS rfl (gS rfl g0)))))))))))) (gS rfl (gS rfl (gS rfl (gS rfl (gS rfl (gS rfl (gS rfl (gS rfl (gS rfl (gS rfl (gS rfl g0))))))))))) g0 (fun g => ?_)
              refine c_seq (fun K11 hK11 => ?_)
              refine c_seq (fun K12 hK12 => ?_)
              exact (by
                refine c_region ?_
                refine l_step (y_moveV (et g0 rfl)) ?_
                refine l_step (y_geq (et g0 rfl) rfl) ?_
                refine l_nil ?_
                refine hK12 _ _ ?_
                refine fg5 0 4 5 10 31 (gS rfl (gS rfl (gS rfl (gS rfl (gS rfl g0))))) (gS rfl (gS rfl (gS rfl (gS rfl g0)))) (gS rfl (gS rfl (gS rfl g0))) (gS rfl (gS rfl g0)) g0 (fun g => ?_)
                refine c_cond (et g0 rfl) (fun cB2 => ?_) (fun cB2 => ?_)
                · skip
                  
                  obtain ⟨q9, y9, hi9, hy9, hya, hyk⟩ := FdT.pos hfe (by have := of_decide_eq_true cB2; omega)
                  have hi9 : j10 = _ := hi9
                  subst hi9
                  refine c_seq (fun K14 hK14 => ?_)
                  exact (by
                    refine c_region ?_
                    refine l_step (y_moveV (et (gS rfl g0) rfl)) ?_
                    refine l_step (y_assignV (et g0 rfl)) ?_
                    refine l_step y_assignC ?_
                    refine l_nil ?_
                    refine hK14 _ _ ?_
                    refine fg2 6 7 (gS rfl g0) g0 (fun g => ?_)
                    refine c_ret ?_
                    repeat with_reducible refine then_ret ?_
                    refine ret2 rfl (res_tmp (et (gS rfl g0) rfl)) (res_tmp (et g0 rfl)) ?_
                    exact ⟨q9, y9, _, _, V, rfl, hT, ⟨ho, Ext.refl V, rfl, rfl, by omega, by omega, by omega⟩, hhA, hy9, by rw [hya, hai], hyk⟩)
                · skip
                  
                  have hn9 := FdT.neg hfe (by have := of_decide_eq_false cB2; omega)
                  have hnt : ¬ hasT V a k := fun h9 => hn9 (by have h8 := h9.2; rw [hai] at h8; exact h8)
                  refine c_skip ?_
                  refine hK11 _ _ ?_
                  refine fg3 0 4 5 (gS rfl (gS rfl (gS rfl (gS rfl g0)))) (gS rfl (gS rfl (gS rfl g0))) (gS rfl (gS rfl g0)) (fun g => ?_)
                  refine c_seq (fun K15 hK15 => ?_)
                  refine c_seq (fun K16 hK16 => ?_)
                  exact (by
                    refine c_region ?_
                    refine l_step (y_moveV (et (gS rfl (gS rfl g0)) rfl)) ?_
                    refine l_step (y_nil (et g0 rfl)) ?_
                    refine l_step (y_fld fld_84_9 (et g0 rfl)) ?_
                    refine l_step (y_load1 one_81 (et g0 rfl) (at1 (hT.vl.c1 hlT rfl))) ?_
                    refine l_step (y_len Hvaa.underlying81 (et g0 rfl)) ?_
                    refine l_step (y_geq (et g0 rfl) rfl) ?_
                    refine l_nil ?_
                    refine hK16 _ _ ?_
                    refine fg4 0 4 5 38 (gS rfl (gS rfl (gS rfl (gS rfl (gS rfl (gS rfl (gS rfl (gS rfl g0)))))))) (gS rfl (gS rfl (gS rfl (gS rfl (gS rfl (gS rfl (gS rfl g0))))))) (gS rfl (gS rfl (gS rfl (gS rfl (gS rfl (gS rfl g0)))))) g0 (fun g => ?_)
                    refine c_false (et g0 rfl) (by (exact decide_eq_false (by have h9 := hrt.resolve_left (fun h9 => hnt h9.1); omega))) ?_
                    refine c_skip ?_
                    refine hK15 _ _ ?_
                    refine fg3 0 4 5 (gS rfl (gS rfl (gS rfl g0))) (gS rfl (gS rfl g0)) (gS rfl g0) (fun g => ?_)
                    refine c_seq (fun K18 hK18 => ?_)
                    exact (by
                      refine c_region ?_
                      refine l_step (y_moveV (et (gS rfl (gS rfl g0)) rfl)) ?_
                      refine l_step (y_loadB agg_25 sz_25 (et (gS rfl (gS rfl g0)) rfl) (by rw [List.size_toArray, length_bL, length_be]) (at1B k2)) ?_
                      have lt2 := k2.lt
                      have lt3 := k3.lt
                      refine l_eff (e_callV cal_82 (aC (et (gS rfl g0) rfl) (aC (et g0 rfl) aN)) (v_acct hT.vl ho a ha na hr)) (fun v19 w19 h19 => ?_)
                      obtain ⟨i9, x8, col2, cs2, V2, rfl, hT2, hLy, hx8, hxa8, htmE⟩ := h19
                      replace k2 := k2.ch hT2.go.ch (by intro hm; omega)
                      replace k3 := k3.ch hT2.go.ch (by intro hm; omega)
                      replace hT := hT.trans hT2
                      replace U := U.cc hT2.go.ch (by intro b hb; exact .inl trivial)
                      have hq2 := hT2.col
                      replace nc2 := (hq2 b2 lt2).trans nc2
                      replace nc3 := (hq2 b3 lt3).trans nc3
                      replace hcC := hT2.vl.colC
                      replace hml := hLy.ok.bd.marks
                      have hA2 := hasA_of hx8 hxa8
                      have hi8 := (List.getElem?_eq_some_iff.1 hx8).1
                      have hb8 := hLy.ok.bd.accts
                      have htt := hLy.temps0
                      have hrt2 := hrt.resolve_left (fun h9 => hnt h9.1)
                      have hn2 : (i9, k) ∉ tKs V2.temps := by
                        rw [htt]
                        intro h9
                        by_cases h8 : hasA V a
                        · exact hnt ⟨h8, by have h7 := hLy.ext.ai h8; rw [ai_eq hLy.ok hx8 hxa8] at h7; rw [← h7]; exact h9⟩
                        · have h6 := tKs_lt ho.ta h9
                          have h7 := hLy.ext.ai_ge h8
                          rw [ai_eq hLy.ok hx8 hxa8] at h7
                          exact absurd h6 (by show ¬ i9 < _; omega)
                      have hv5 := hT2.vl
                      have hh5 : ∀ q, w.heap.size ≤ q → ¬ H.has q := fun q hq hh => by have := hV.fz.lt hh; omega
                      have htm : V2.tm = true := by rw [htmE]; exact htm0
                      obtain ⟨b5, c5, hQ5⟩ := hT2.vl.tab htm
                      have hsl5 := hQ5.sl
                      obtain ⟨V3, hV3⟩ : ∃ V3, V3 = V2 := ⟨_, rfl⟩
                      have ho3 : VOk V2 := hLy.ok
                      have hLy3 : Lay V V2 na 0 0 := hLy
                      exact (by
                        refine l_step (y_moveV (et g0 rfl)) ?_
                        refine l_step (y_ext (et g0 rfl) rfl) ?_
                        refine l_step (y_ext (et (gS rfl g0) rfl) rfl) ?_
                        refine l_step (y_assignV (et (gS rfl g0) rfl)) ?_
                        refine l_step (y_assignV (et (gS rfl g0) rfl)) ?_
                        refine l_nil ?_
                        refine hK18 _ _ ?_
                        refine fg4 0 5 8 11 (gS rfl (gS rfl (gS rfl (gS rfl (gS rfl (gS rfl (gS rfl (gS rfl (gS rfl (gS rfl g0)))))))))) (gS rfl (gS rfl (gS rfl (gS rfl (gS rfl (gS rfl (gS rfl (gS rfl g0)))))))) (gS rfl g0) g0 (fun g => ?_)
                        refine c_seq (fun K20 hK20 => ?_)
                        refine c_seq (fun K21 hK21 => ?_)
                        exact (by
                          refine c_region ?_
                          refine l_step (y_moveV (et g0 rfl)) ?_
                          refine l_step (y_not (et g0 rfl)) ?_
                          refine l_nil ?_
                          refine hK21 _ _ ?_
                          refine fg4 0 5 8 46 (gS rfl (gS rfl (gS rfl (gS rfl (gS rfl g0))))) (gS rfl (gS rfl (gS rfl (gS rfl g0)))) (gS rfl (gS rfl (gS rfl g0))) g0 (fun g => ?_)
                          refine c_false (et g0 rfl) (by rfl) ?_
                          refine c_skip ?_
                          refine hK20 _ _ ?_
                          refine fg3 0 5 8 (gS rfl (gS rfl (gS rfl g0))) (gS rfl (gS rfl g0)) (gS rfl g0) (fun g => ?_)
                          refine c_seq (fun K23 hK23 => ?_)
                          refine c_seq (fun K24 hK24 => ?_)
                          exact (by
                            refine c_region ?_
                            refine l_step (y_moveV (et (gS rfl (gS rfl g0)) rfl)) ?_
                            refine l_step (y_nil (et g0 rfl)) ?_
                            refine l_step (y_fld fld_84_10 (et g0 rfl)) ?_
                            refine l_step (y_load1 one_82 (et g0 rfl) (at1 (hT.vl.c1 hsl5 rfl))) ?_
                            refine l_step (y_len Hvaa.underlying82 (et g0 rfl)) ?_
                            refine l_step (y_neq (et g0 rfl) rfl) ?_
                            refine l_nil ?_
                            refine hK24 _ _ ?_
                            refine fg4 0 5 8 52 (gS rfl (gS rfl (gS rfl (gS rfl (gS rfl (gS rfl (gS rfl (gS rfl g0)))))))) (gS rfl (gS rfl (gS rfl (gS rfl (gS rfl (gS rfl (gS rfl g0))))))) (gS rfl (gS rfl (gS rfl (gS rfl (gS rfl (gS rfl g0)))))) g0 (fun g => ?_)
                            refine c_false (et g0 rfl) (by rfl) ?_
                            refine c_skip ?_
                            refine hK23 _ _ ?_
                            refine fg3 0 5 8 (gS rfl (gS rfl (gS rfl g0))) (gS rfl (gS rfl g0)) (gS rfl g0) (fun g => ?_)
                            refine c_seq (fun K26 hK26 => ?_)
                            exact (by
                              refine c_region ?_
                              refine l_step (y_moveV (et (gS rfl (gS rfl g0)) rfl)) ?_
                              refine l_step (y_moveV (et (gS rfl g0) rfl)) ?_
                              refine l_step (y_loadB agg_65 sz_65 (et (gS rfl (gS rfl (gS rfl g0))) rfl) (by first | (simp only [Value.cells, hV, aV, bV, wV, wL, List.size_toArray, length_bL, length_uL, length_be, size_spl, List.length_cons, List.length_nil, List.length_replicate, Nat.zero_add, Nat.reduceAdd, Nat.reduceLeDiff, Nat.le_refl]; done) | rfl) (at1B k3)) ?_
                              refine l_eff (e_callV cal_382 (aC (et (gS rfl (gS rfl g0)) rfl) (aC (et (gS rfl g0) rfl) (aC (et g0 rfl) aN))) (v_findTemp1 hT.vl ho3 i9 k (by omega) hk htm)) (fun v27 w27 h27 => ?_)
                              obtain ⟨j27, f27, rfl, hf4, u27⟩ := h27
                              replace k2 := k2.up u27
                              replace k3 := k3.up u27
                              replace hT := hT.up u27
                              replace U := U.tr u27
                              obtain ⟨_, rfl, p4, rfl, hfr4⟩ := hf4.resolve_left (fun ⟨q4, ⟨y4, hy4, hya4, hyk4⟩, _⟩ => hn2 (List.mem_of_getElem? (tKs_get.2 ⟨y4, hy4, hya4, hyk4⟩)))
                              have hp4 := hfr4.lt
                              obtain ⟨lt9, lc9, hlT4⟩ := hT.vl.lenT
                              have htl4 : V2.temps.length = V.temps.length := by show V2.temps.length = _; rw [htt]
                              refine l_step (y_moveV (et g0 rfl)) ?_
                              refine l_step (y_ext (et g0 rfl) rfl) ?_
                              refine l_step (y_ext (et (gS rfl g0) rfl) rfl) ?_
                              refine l_step (y_assignV (et (gS rfl g0) rfl)) ?_
                              refine l_step (y_assignV (et (gS rfl g0) rfl)) ?_
                              refine l_nil ?_
                              refine hK26 _ _ ?_
                              refine fg4 0 5 8 14 (gS rfl (gS rfl (gS rfl (gS rfl (gS rfl (gS rfl (gS rfl (gS rfl (gS rfl (gS rfl (gS rfl g0))))))))))) (gS rfl (gS rfl (gS rfl (gS rfl (gS rfl (gS rfl (gS rfl (gS rfl (gS rfl (gS rfl g0)))))))))) (gS rfl (gS rfl (gS rfl (gS rfl (gS rfl (gS rfl (gS rfl (gS rfl (gS rfl g0))))))))) g0 (fun g => ?_)
                              refine c_seq (fun K28 hK28 => ?_)
                              refine c_seq (fun K29 hK29 => ?_)
                              exact (by
                                refine c_region ?_
                                refine l_step (y_moveV (et g0 rfl)) ?_
                                refine l_step (y_lss (et g0 rfl) rfl) ?_
                                refine l_nil ?_
                                refine hK29 _ _ ?_
                                refine fg5 0 5 8 14 80 (gS rfl (gS rfl (gS rfl (gS rfl (gS rfl g0))))) (gS rfl (gS rfl (gS rfl (gS rfl g0)))) (gS rfl (gS rfl (gS rfl g0))) (gS rfl (gS rfl g0)) g0 (fun g => ?_)
                                refine c_false (et g0 rfl) (by (exact decide_eq_false (by omega))) ?_
                                refine c_skip ?_
                                refine hK28 _ _ ?_
                                refine fg4 0 5 8 14 (gS rfl (gS rfl (gS rfl (gS rfl g0)))) (gS rfl (gS rfl (gS rfl g0))) (gS rfl (gS rfl g0)) (gS rfl g0) (fun g => ?_)
                                refine c_seq (fun K31 hK31 => ?_)
                                exact (by
                                  refine c_region ?_
                                  refine l_step (y_moveV (et (gS rfl (gS rfl (gS rfl g0))) rfl)) ?_
                                  refine l_step (y_nil (et g0 rfl)) ?_
                                  refine l_step (y_fld fld_84_9 (et g0 rfl)) ?_
                                  refine l_step (y_load1 one_81 (et g0 rfl) (at1 (hT.vl.c1 hlT4 rfl))) ?_
                                  refine l_step (y_len Hvaa.underlying81 (et g0 rfl)) ?_
                                  refine l_step (y_conv Hvaa.underlying3 Hvaa.underlying21 (et g0 rfl) (wrap_i32 ?_ ?_)) ?_
                                  omega
                                  (have h9 := htl4; omega)
                                  refine l_step (y_assignV (et g0 rfl)) ?_
                                  refine l_nil ?_
                                  refine hK31 _ _ ?_
                                  refine fg5 0 5 8 14 10 (gS rfl (gS rfl (gS rfl (gS rfl (gS rfl (gS rfl (gS rfl (gS rfl (gS rfl (gS rfl g0)))))))))) (gS rfl (gS rfl (gS rfl (gS rfl (gS rfl (gS rfl (gS rfl (gS rfl (gS rfl g0))))))))) (gS rfl (gS rfl (gS rfl (gS rfl (gS rfl (gS rfl (gS rfl (gS rfl g0)))))))) (gS rfl (gS rfl (gS rfl (gS rfl (gS rfl (gS rfl (gS rfl g0))))))) g0 (fun g => ?_)
                                  refine c_seq (fun K32 hK32 => ?_)
                                  exact (by
                                    refine c_draw (Ch (fun k => col2 k = 6)) 12 [(0, true), (1, true), (2, true), (3, true), (4, true), (5, true), (6, true), (7, true), (8, false), (9, false), (10, true), (11, true), (12, false)] (by kernel_rfl) (fun w33 hu => ⟨Ch.refl _ _, ?_⟩)
                                    replace k2 := k2.up hu
                                    replace k3 := k3.up hu
                                    replace hT := hT.up hu
                                    replace U := U.tr hu
                                    have SU : (Ch (fun k => col2 k = 6)) w33 w33 := Ch.refl _ _
                                    refine p_step (by exact rfl) (y_moveV (et (gS rfl (gS rfl (gS rfl (gS rfl g0)))) rfl)) ?_
                                    refine p_step (by exact rfl) (y_moveV (et (gS rfl (gS rfl (gS rfl (gS rfl (gS rfl g0))))) rfl)) ?_
                                    refine p_step (by exact rfl) (y_nil (et g0 rfl)) ?_
                                    refine p_step (by exact rfl) (y_fld fld_84_9 (et g0 rfl)) ?_
                                    refine p_step (by exact rfl) (y_load1 one_81 (et g0 rfl) (atC (hT.vl.c1 hlT4 rfl) (by intro hm; omega))) ?_
                                    refine p_step (by exact rfl) (y_moveV (et (gS rfl (gS rfl (gS rfl (gS rfl (gS rfl (gS rfl (gS rfl g0))))))) rfl)) ?_
                                    refine p_step (by exact rfl) (y_loadB agg_65 sz_65 (et (gS rfl (gS rfl (gS rfl (gS rfl (gS rfl (gS rfl (gS rfl (gS rfl (gS rfl g0))))))))) rfl) (by first | (simp only [Value.cells, hV, aV, bV, wV, wL, List.size_toArray, length_bL, length_uL, length_be, size_spl, List.length_cons, List.length_nil, List.length_replicate, Nat.zero_add, Nat.reduceAdd, Nat.reduceLeDiff, Nat.le_refl]; done) | rfl) (atCB k3 (by intro hm; omega))) ?_
                                    refine p_step (by exact rfl) (y_bldET (et (gS rfl g0) rfl) (et g0 rfl)) ?_
                                    refine p_eff (by exact rfl) (e_slice1 (k := 8) Hvaa.underlying81 sz_430 zr_430 rfl (by decide) (et g0 rfl) (show (etC (blankT i9 k)).toArray.size = 9 by rw [List.size_toArray, etC_len _])) (fun v34 w34 h34 => ?_)
                                    obtain ⟨bb34, rfl, nn34⟩ := h34
                                    replace k2 := k2.up nn34.up
                                    replace k3 := k3.up nn34.up
                                    replace hT := hT.up nn34.up
                                    replace U := U.tr nn34.up
                                    have kk34 : Blk w34 bb34 (etC (blankT i9 k)).toArray := nn34.blk
                                    refine ⟨.inr (SU.tr nn34.up), ?_⟩
                                    replace SU := SU.tr nn34.up
                                    have lt2 := k2.lt
                                    have lt3 := k3.lt
                                    refine p_eff (by exact rfl) (e_appT (y := blankT i9 k) (news := etC (blankT i9 k)) Hvaa.underlying81 sz_430 zr_430 by_430 rfl (by decide) (et (gS rfl (gS rfl (gS rfl (gS rfl g0)))) rfl) hT hT.vl.tem hlT4 (by decide) (by decide) (et g0 rfl) kk34 (etC_len _) one_etC ⟨rfl, ⟨show i9 < 2560 by omega, hk, show 0 < W256 by decide⟩⟩ (by decide) (by have h9 := htl4; omega)) (fun v35 w35 h35 => ?_)
                                    obtain ⟨hm35, ch35⟩ := h35
                                    replace k2 := k2.ch ch35 (by intro hm; first | omega | (subst hm; omega))
                                    replace k3 := k3.ch ch35 (by intro hm; first | omega | (subst hm; omega))
                                    replace hT := hm35
                                    replace U := U.cc ch35 (by intro b hb; exact .inl trivial)
                                    replace SU := SU.cc ch35 (by intro b hb; first | exact .inl hb | exact hb.elim | omega | (have h9 := hOo.lim b hb.symm; first | exact .inl (by omega) | omega))
                                    obtain ⟨pa35, pc35, rfl⟩ := hm35.pd.len
                                    refine ⟨.inr SU, ?_⟩
                                    exact (by
                                      refine p_step (by exact rfl) (y_nil (et (gS rfl (gS rfl (gS rfl (gS rfl (gS rfl (gS rfl (gS rfl (gS rfl (gS rfl g0))))))))) rfl)) ?_
                                      refine p_step (by exact rfl) (y_fld fld_84_9 (et g0 rfl)) ?_
                                      refine p_effN (by exact rfl) (e_store sz_81 (et g0 rfl) (cellsV (et (gS rfl (gS rfl g0)) rfl) rfl) rfl (by intro v hv; simp at hv; subst hv; rfl) hT.m.kC (by rw [hT.m.size]; exact Nat.le_of_ble_eq_true rfl)) (fun v36 w36 h36 => ?_)
                                      obtain ⟨rfl, x36⟩ := h36
                                      obtain ⟨col4, hv36, hq36⟩ := hT.layT hml x36
                                      replace k2 := k2.ch x36.ch (by intro hm; first | omega | (subst hm; omega))
                                      replace k3 := k3.ch x36.ch (by intro hm; first | omega | (subst hm; omega))
                                      replace hT := hv36
                                      replace U := U.cc x36.ch (by intro b hb; exact .inl trivial)
                                      replace nc2 := (hq36 b2 lt2).trans nc2
                                      replace nc3 := (hq36 b3 lt3).trans nc3
                                      replace hcC := hT.vl.colC
                                      refine ⟨.inl rfl, ?_⟩
                                      refine p_nil ?_
                                      refine hK32 _ _ ?_
                                      refine fg3 0 14 10 (gS rfl (gS rfl (gS rfl (gS rfl (gS rfl (gS rfl (gS rfl (gS rfl (gS rfl (gS rfl (gS rfl (gS rfl (gS rfl (gS rfl (gS rfl (gS rfl g0)))))))))))))))) (gS rfl (gS rfl (gS rfl (gS rfl (gS rfl (gS rfl (gS rfl (gS rfl (gS rfl (gS rfl (gS rfl (gS rfl (gS rfl g0))))))))))))) (gS rfl (gS rfl (gS rfl (gS rfl (gS rfl (gS rfl (gS rfl (gS rfl (gS rfl (gS rfl (gS rfl (gS rfl g0)))))))))))) (fun g => ?_)
                                      refine c_seq (fun K37 hK37 => ?_)
                                      exact (by
                                        refine c_region ?_
                                        refine l_step (y_moveV (et (gS rfl (gS rfl g0)) rfl)) ?_
                                        refine l_step (y_nil (et g0 rfl)) ?_
                                        refine l_step (y_fld fld_84_10 (et g0 rfl)) ?_
                                        obtain ⟨b8, c8, hQ8⟩ := hT.vl.tab htm
                                        have hz8 := hQ8.sz
                                        have hc8 := hQ8.col
                                        refine l_step (y_load1 one_82 (et g0 rfl) (at1 (hT.vl.c1 hQ8.sl rfl))) ?_
                                        refine l_step (y_moveV (et (gS rfl (gS rfl (gS rfl (gS rfl (gS rfl g0))))) rfl)) ?_
                                        refine l_step (y_moveV (et (gS rfl (gS rfl (gS rfl (gS rfl (gS rfl g0))))) rfl)) ?_
                                        refine l_step (y_idxS Hvaa.underlying82 sz_21 (et (gS rfl (gS rfl g0)) rfl) (et (gS rfl g0) rfl) ?_ ?_) ?_
                                        omega
                                        omega
                                        refine l_effN (e_store sz_21 (et g0 rfl) (cellsV (et (gS rfl g0) rfl) rfl) rfl (by intro v hv; simp at hv; subst hv; rfl) hQ8.kT (by rw [hz8]; omega)) (fun v38 w38 h38 => ?_)
                                        obtain ⟨rfl, x38⟩ := h38
                                        have hv38 := hT.stTt hQ8 htm hp4 (by omega) x38
                                        replace k2 := k2.ch x38.ch (by intro hm; first | omega | (subst hm; omega))
                                        replace k3 := k3.ch x38.ch (by intro hm; first | omega | (subst hm; omega))
                                        replace hT := hv38
                                        replace U := U.cc x38.ch (by intro b hb; exact .inl trivial)
                                        refine l_nil ?_
                                        refine hK37 _ _ ?_
                                        refine fg1 10 (gS rfl (gS rfl (gS rfl (gS rfl (gS rfl (gS rfl (gS rfl g0))))))) (fun g => ?_)
                                        refine c_seq (fun K39 hK39 => ?_)
                                        exact (by
                                          refine c_region ?_
                                          refine l_step (y_moveV (et g0 rfl)) ?_
                                          refine l_step (y_assignV (et g0 rfl)) ?_
                                          refine l_step y_assignC ?_
                                          refine l_nil ?_
                                          refine hK39 _ _ ?_
                                          refine fg2 6 7 (gS rfl g0) g0 (fun g => ?_)
                                          refine c_ret ?_
                                          repeat with_reducible refine then_ret ?_
                                          refine ret2 rfl (res_tmp (et (gS rfl g0) rfl)) (res_tmp (et g0 rfl)) ?_
                                          have hL9 := VOk.layT ho3 hn2 (by show i9 < V2.accts.length; omega) (by show V2.temps.length < _; rw [htt]; omega) htm hfr4
                                          have hL7 : Lay V2 { V2 with temps := V2.temps ++ [blankT i9 k], ttb := updT V2.ttb p4 V2.temps.length } 0 0 1 := ⟨hL9, Ext.layT _ i9 k _, rfl, rfl, by simp, by simp, by simp⟩
                                          have hL8 := hLy3.trans hL7
                                          have hnt1 : nt = 1 := hrt2.2
                                          subst hnt1
                                          exact ⟨V2.temps.length, blankT i9 k, _, _, _, rfl, hT, by simpa using hL8, hasA_of hx8 hxa8, by show (V2.temps ++ [_])[_]? = _; simp, (ai_eq hL9 hx8 hxa8).symm, rfl⟩))))))))))))))
          · skip
            
            obtain ⟨hno, rfl, p9, rfl, hfr⟩ := hfd.neg (by have := of_decide_eq_false cB1; omega)
            have hnt : ¬ hasT V a k := fun h9 => mA_no hno h9.1
            refine c_skip ?_
            refine hK7 _ _ ?_
            refine fg4 0 4 5 10 (gS rfl (gS rfl (gS rfl (gS rfl (gS rfl g0))))) (gS rfl (gS rfl (gS rfl (gS rfl g0)))) (gS rfl (gS rfl (gS rfl g0))) (gS rfl g0) (fun g => ?_)
            refine c_seq (fun K40 hK40 => ?_)
            refine c_seq (fun K41 hK41 => ?_)
            exact (by
              refine c_region ?_
              refine l_step (y_moveV (et g0 rfl)) ?_
              refine l_step (y_geq (et g0 rfl) rfl) ?_
              refine l_nil ?_
              refine hK41 _ _ ?_
              refine fg5 0 4 5 10 31 (gS rfl (gS rfl (gS rfl (gS rfl (gS rfl g0))))) (gS rfl (gS rfl (gS rfl (gS rfl g0)))) (gS rfl (gS rfl (gS rfl g0))) (gS rfl (gS rfl g0)) g0 (fun g => ?_)
              refine c_false (et g0 rfl) (by rfl) ?_
              refine c_skip ?_
              refine hK40 _ _ ?_
              refine fg3 0 4 5 (gS rfl (gS rfl (gS rfl (gS rfl g0)))) (gS rfl (gS rfl (gS rfl g0))) (gS rfl (gS rfl g0)) (fun g => ?_)
              refine c_seq (fun K43 hK43 => ?_)
              refine c_seq (fun K44 hK44 => ?_)
              exact (by
                refine c_region ?_
                refine l_step (y_moveV (et (gS rfl (gS rfl g0)) rfl)) ?_
                refine l_step (y_nil (et g0 rfl)) ?_
                refine l_step (y_fld fld_84_9 (et g0 rfl)) ?_
                refine l_step (y_load1 one_81 (et g0 rfl) (at1 (hT.vl.c1 hlT rfl))) ?_
                refine l_step (y_len Hvaa.underlying81 (et g0 rfl)) ?_
                refine l_step (y_geq (et g0 rfl) rfl) ?_
                refine l_nil ?_
                refine hK44 _ _ ?_
                refine fg4 0 4 5 38 (gS rfl (gS rfl (gS rfl (gS rfl (gS rfl (gS rfl (gS rfl (gS rfl g0)))))))) (gS rfl (gS rfl (gS rfl (gS rfl (gS rfl (gS rfl (gS rfl g0))))))) (gS rfl (gS rfl (gS rfl (gS rfl (gS rfl (gS rfl g0)))))) g0 (fun g => ?_)
                refine c_false (et g0 rfl) (by (exact decide_eq_false (by have h9 := hrt.resolve_left (fun h9 => hnt h9.1); omega))) ?_
                refine c_skip ?_
                refine hK43 _ _ ?_
                refine fg3 0 4 5 (gS rfl (gS rfl (gS rfl g0))) (gS rfl (gS rfl g0)) (gS rfl g0) (fun g => ?_)
                refine c_seq (fun K46 hK46 => ?_)
                exact (by
                  refine c_region ?_
                  refine l_step (y_moveV (et (gS rfl (gS rfl g0)) rfl)) ?_
                  refine l_step (y_loadB agg_25 sz_25 (et (gS rfl (gS rfl g0)) rfl) (by rw [List.size_toArray, length_bL, length_be]) (at1B k2)) ?_
                  have lt2 := k2.lt
                  have lt3 := k3.lt
                  refine l_eff (e_callV cal_82 (aC (et (gS rfl g0) rfl) (aC (et g0 rfl) aN)) (v_acct hT.vl ho a ha na hr)) (fun v47 w47 h47 => ?_)
                  obtain ⟨i9, x8, col2, cs2, V2, rfl, hT2, hLy, hx8, hxa8, htmE⟩ := h47
                  replace k2 := k2.ch hT2.go.ch (by intro hm; omega)
                  replace k3 := k3.ch hT2.go.ch (by intro hm; omega)
                  replace hT := hT.trans hT2
                  replace U := U.cc hT2.go.ch (by intro b hb; exact .inl trivial)
                  have hq2 := hT2.col
                  replace nc2 := (hq2 b2 lt2).trans nc2
                  replace nc3 := (hq2 b3 lt3).trans nc3
                  replace hcC := hT2.vl.colC
                  replace hml := hLy.ok.bd.marks
                  have hA2 := hasA_of hx8 hxa8
                  have hi8 := (List.getElem?_eq_some_iff.1 hx8).1
                  have hb8 := hLy.ok.bd.accts
                  have htt := hLy.temps0
                  have hrt2 := hrt.resolve_left (fun h9 => hnt h9.1)
                  have hn2 : (i9, k) ∉ tKs V2.temps := by
                    rw [htt]
                    intro h9
                    by_cases h8 : hasA V a
                    · exact hnt ⟨h8, by have h7 := hLy.ext.ai h8; rw [ai_eq hLy.ok hx8 hxa8] at h7; rw [← h7]; exact h9⟩
                    · have h6 := tKs_lt ho.ta h9
                      have h7 := hLy.ext.ai_ge h8
                      rw [ai_eq hLy.ok hx8 hxa8] at h7
                      exact absurd h6 (by show ¬ i9 < _; omega)
                  have hv5 := hT2.vl
                  have hh5 : ∀ q, w.heap.size ≤ q → ¬ H.has q := fun q hq hh => by have := hV.fz.lt hh; omega
                  have htm : V2.tm = true := by rw [htmE]; exact htm0
                  obtain ⟨b5, c5, hQ5⟩ := hT2.vl.tab htm
                  have hsl5 := hQ5.sl
                  obtain ⟨V3, hV3⟩ : ∃ V3, V3 = V2 := ⟨_, rfl⟩
                  have ho3 : VOk V2 := hLy.ok
                  have hLy3 : Lay V V2 na 0 0 := hLy
                  exact (by
                    refine l_step (y_moveV (et g0 rfl)) ?_
                    refine l_step (y_ext (et g0 rfl) rfl) ?_
                    refine l_step (y_ext (et (gS rfl g0) rfl) rfl) ?_
                    refine l_step (y_assignV (et (gS rfl g0) rfl)) ?_
                    refine l_step (y_assignV (et (gS rfl g0) rfl)) ?_
                    refine l_nil ?_
                    refine hK46 _ _ ?_
                    refine fg4 0 5 8 11 (gS rfl (gS rfl (gS rfl (gS rfl (gS rfl (gS rfl (gS rfl (gS rfl (gS rfl (gS rfl g0)))))))))) (gS rfl (gS rfl (gS rfl (gS rfl (gS rfl (gS rfl (gS rfl (gS rfl g0)))))))) (gS rfl g0) g0 (fun g => ?_)
                    refine c_seq (fun K48 hK48 => ?_)
                    refine c_seq (fun K49 hK49 => ?_)
                    exact (by
                      refine c_region ?_
                      refine l_step (y_moveV (et g0 rfl)) ?_
                      refine l_step (y_not (et g0 rfl)) ?_
                      refine l_nil ?_
                      refine hK49 _ _ ?_
                      refine fg4 0 5 8 46 (gS rfl (gS rfl (gS rfl (gS rfl (gS rfl g0))))) (gS rfl (gS rfl (gS rfl (gS rfl g0)))) (gS rfl (gS rfl (gS rfl g0))) g0 (fun g => ?_)
                      refine c_false (et g0 rfl) (by rfl) ?_
                      refine c_skip ?_
                      refine hK48 _ _ ?_
                      refine fg3 0 5 8 (gS rfl (gS rfl (gS rfl g0))) (gS rfl (gS rfl g0)) (gS rfl g0) (fun g => ?_)
                      refine c_seq (fun K51 hK51 => ?_)
                      refine c_seq (fun K52 hK52 => ?_)
                      exact (by
                        refine c_region ?_
                        refine l_step (y_moveV (et (gS rfl (gS rfl g0)) rfl)) ?_
                        refine l_step (y_nil (et g0 rfl)) ?_
                        refine l_step (y_fld fld_84_10 (et g0 rfl)) ?_
                        refine l_step (y_load1 one_82 (et g0 rfl) (at1 (hT.vl.c1 hsl5 rfl))) ?_
                        refine l_step (y_len Hvaa.underlying82 (et g0 rfl)) ?_
                        refine l_step (y_neq (et g0 rfl) rfl) ?_
                        refine l_nil ?_
                        refine hK52 _ _ ?_
                        refine fg4 0 5 8 52 (gS rfl (gS rfl (gS rfl (gS rfl (gS rfl (gS rfl (gS rfl (gS rfl g0)))))))) (gS rfl (gS rfl (gS rfl (gS rfl (gS rfl (gS rfl (gS rfl g0))))))) (gS rfl (gS rfl (gS rfl (gS rfl (gS rfl (gS rfl g0)))))) g0 (fun g => ?_)
                        refine c_false (et g0 rfl) (by rfl) ?_
                        refine c_skip ?_
                        refine hK51 _ _ ?_
                        refine fg3 0 5 8 (gS rfl (gS rfl (gS rfl g0))) (gS rfl (gS rfl g0)) (gS rfl g0) (fun g => ?_)
                        refine c_seq (fun K54 hK54 => ?_)
                        exact (by
                          refine c_region ?_
                          refine l_step (y_moveV (et (gS rfl (gS rfl g0)) rfl)) ?_
                          refine l_step (y_moveV (et (gS rfl g0) rfl)) ?_
                          refine l_step (y_loadB agg_65 sz_65 (et (gS rfl (gS rfl (gS rfl g0))) rfl) (by first | (simp only [Value.cells, hV, aV, bV, wV, wL, List.size_toArray, length_bL, length_uL, length_be, size_spl, List.length_cons, List.length_nil, List.length_replicate, Nat.zero_add, Nat.reduceAdd, Nat.reduceLeDiff, Nat.le_refl]; done) | rfl) (at1B k3)) ?_
                          refine l_eff (e_callV cal_382 (aC (et (gS rfl (gS rfl g0)) rfl) (aC (et (gS rfl g0) rfl) (aC (et g0 rfl) aN))) (v_findTemp1 hT.vl ho3 i9 k (by omega) hk htm)) (fun v55 w55 h55 => ?_)
                          obtain ⟨j55, f55, rfl, hf4, u55⟩ := h55
                          replace k2 := k2.up u55
                          replace k3 := k3.up u55
                          replace hT := hT.up u55
                          replace U := U.tr u55
                          obtain ⟨_, rfl, p4, rfl, hfr4⟩ := hf4.resolve_left (fun ⟨q4, ⟨y4, hy4, hya4, hyk4⟩, _⟩ => hn2 (List.mem_of_getElem? (tKs_get.2 ⟨y4, hy4, hya4, hyk4⟩)))
                          have hp4 := hfr4.lt
                          obtain ⟨lt9, lc9, hlT4⟩ := hT.vl.lenT
                          have htl4 : V2.temps.length = V.temps.length := by show V2.temps.length = _; rw [htt]
                          refine l_step (y_moveV (et g0 rfl)) ?_
                          refine l_step (y_ext (et g0 rfl) rfl) ?_
                          refine l_step (y_ext (et (gS rfl g0) rfl) rfl) ?_
                          refine l_step (y_assignV (et (gS rfl g0) rfl)) ?_
                          refine l_step (y_assignV (et (gS rfl g0) rfl)) ?_
                          refine l_nil ?_
                          refine hK54 _ _ ?_
                          refine fg4 0 5 8 14 (gS rfl (gS rfl (gS rfl (gS rfl (gS rfl (gS rfl (gS rfl (gS rfl (gS rfl (gS rfl (gS rfl g0))))))))))) (gS rfl (gS rfl (gS rfl (gS rfl (gS rfl (gS rfl (gS rfl (gS rfl (gS rfl (gS rfl g0)))))))))) (gS rfl (gS rfl (gS rfl (gS rfl (gS rfl (gS rfl (gS rfl (gS rfl (gS rfl g0))))))))) g0 (fun g => ?_)
                          refine c_seq (fun K56 hK56 => ?_)
                          refine c_seq (fun K57 hK57 => ?_)
                          exact (by
                            refine c_region ?_
                            refine l_step (y_moveV (et g0 rfl)) ?_
                            refine l_step (y_lss (et g0 rfl) rfl) ?_
                            refine l_nil ?_
                            refine hK57 _ _ ?_
                            refine fg5 0 5 8 14 80 (gS rfl (gS rfl (gS rfl (gS rfl (gS rfl g0))))) (gS rfl (gS rfl (gS rfl (gS rfl g0)))) (gS rfl (gS rfl (gS rfl g0))) (gS rfl (gS rfl g0)) g0 (fun g => ?_)
                            refine c_false (et g0 rfl) (by (exact decide_eq_false (by omega))) ?_
                            refine c_skip ?_
                            refine hK56 _ _ ?_
                            refine fg4 0 5 8 14 (gS rfl (gS rfl (gS rfl (gS rfl g0)))) (gS rfl (gS rfl (gS rfl g0))) (gS rfl (gS rfl g0)) (gS rfl g0) (fun g => ?_)
                            refine c_seq (fun K59 hK59 => ?_)
                            exact (by
                              refine c_region ?_
                              refine l_step (y_moveV (et (gS rfl (gS rfl (gS rfl g0))) rfl)) ?_
                              refine l_step (y_nil (et g0 rfl)) ?_
                              refine l_step (y_fld fld_84_9 (et g0 rfl)) ?_
                              refine l_step (y_load1 one_81 (et g0 rfl) (at1 (hT.vl.c1 hlT4 rfl))) ?_
                              refine l_step (y_len Hvaa.underlying81 (et g0 rfl)) ?_
                              refine l_step (y_conv Hvaa.underlying3 Hvaa.underlying21 (et g0 rfl) (wrap_i32 ?_ ?_)) ?_
                              omega
                              (have h9 := htl4; omega)
                              refine l_step (y_assignV (et g0 rfl)) ?_
                              refine l_nil ?_
                              refine hK59 _ _ ?_
                              refine fg5 0 5 8 14 10 (gS rfl (gS rfl (gS rfl (gS rfl (gS rfl (gS rfl (gS rfl (gS rfl (gS rfl (gS rfl g0)))))))))) (gS rfl (gS rfl (gS rfl (gS rfl (gS rfl (gS rfl (gS rfl (gS rfl (gS rfl g0))))))))) (gS rfl (gS rfl (gS rfl (gS rfl (gS rfl (gS rfl (gS rfl (gS rfl g0)))))))) (gS rfl (gS rfl (gS rfl (gS rfl (gS rfl (gS rfl (gS rfl g0))))))) g0 (fun g => ?_)
                              refine c_seq (fun K60 hK60 => ?_)
                              exact (by
                                refine c_draw (Ch (fun k => col2 k = 6)) 12 [(0, true), (1, true), (2, true), (3, true), (4, true), (5, true), (6, true), (7, true), (8, false), (9, false), (10, true), (11, true), (12, false)] (by kernel_rfl) (fun w61 hu => ⟨Ch.refl _ _, ?_⟩)
                                replace k2 := k2.up hu
                                replace k3 := k3.up hu
                                replace hT := hT.up hu
                                replace U := U.tr hu
                                have SU : (Ch (fun k => col2 k = 6)) w61 w61 := Ch.refl _ _
                                refine p_step (by exact rfl) (y_moveV (et (gS rfl (gS rfl (gS rfl (gS rfl g0)))) rfl)) ?_
                                refine p_step (by exact rfl) (y_moveV (et (gS rfl (gS rfl (gS rfl (gS rfl (gS rfl g0))))) rfl)) ?_
                                refine p_step (by exact rfl) (y_nil (et g0 rfl)) ?_
                                refine p_step (by exact rfl) (y_fld fld_84_9 (et g0 rfl)) ?_
                                refine p_step (by exact rfl) (y_load1 one_81 (et g0 rfl) (atC (hT.vl.c1 hlT4 rfl) (by intro hm; omega))) ?_
                                refine p_step (by exact rfl) (y_moveV (et (gS rfl (gS rfl (gS rfl (gS rfl (gS rfl (gS rfl (gS rfl g0))))))) rfl)) ?_
                                refine p_step (by exact rfl) (y_loadB agg_65 sz_65 (et (gS rfl (gS rfl (gS rfl (gS rfl (gS rfl (gS rfl (gS rfl (gS rfl (gS rfl g0))))))))) rfl) (by first | (simp only [Value.cells, hV, aV, bV, wV, wL, List.size_toArray, length_bL, length_uL, length_be, size_spl, List.length_cons, List.length_nil, List.length_replicate, Nat.zero_add, Nat.reduceAdd, Nat.reduceLeDiff, Nat.le_refl]; done) | rfl) (atCB k3 (by intro hm; omega))) ?_
                                refine p_step (by exact rfl) (y_bldET (et (gS rfl g0) rfl) (et g0 rfl)) ?_
                                refine p_eff (by exact rfl) (e_slice1 (k := 8) Hvaa.underlying81 sz_430 zr_430 rfl (by decide) (et g0 rfl) (show (etC (blankT i9 k)).toArray.size = 9 by rw [List.size_toArray, etC_len _])) (fun v62 w62 h62 => ?_)
                                obtain ⟨bb62, rfl, nn62⟩ := h62
                                replace k2 := k2.up nn62.up
                                replace k3 := k3.up nn62.up
                                replace hT := hT.up nn62.up
                                replace U := U.tr nn62.up
                                have kk62 : Blk w62 bb62 (etC (blankT i9 k)).toArray := nn62.blk
                                refine ⟨.inr (SU.tr nn62.up), ?_⟩
                                replace SU := SU.tr nn62.up
                                have lt2 := k2.lt
                                have lt3 := k3.lt
                                refine p_eff (by exact rfl) (e_appT (y := blankT i9 k) (news := etC (blankT i9 k)) Hvaa.underlying81 sz_430 zr_430 by_430 rfl (by decide) (et (gS rfl (gS rfl (gS rfl (gS rfl g0)))) rfl) hT hT.vl.tem hlT4 (by decide) (by decide) (et g0 rfl) kk62 (etC_len _) one_etC ⟨rfl, ⟨show i9 < 2560 by omega, hk, show 0 < W256 by decide⟩⟩ (by decide) (by have h9 := htl4; omega)) (fun v63 w63 h63 => ?_)
                                obtain ⟨hm63, ch63⟩ := h63
                                replace k2 := k2.ch ch63 (by intro hm; first | omega | (subst hm; omega))
                                replace k3 := k3.ch ch63 (by intro hm; first | omega | (subst hm; omega))
                                replace hT := hm63
                                replace U := U.cc ch63 (by intro b hb; exact .inl trivial)
                                replace SU := SU.cc ch63 (by intro b hb; first | exact .inl hb | exact hb.elim | omega | (have h9 := hOo.lim b hb.symm; first | exact .inl (by omega) | omega))
                                obtain ⟨pa63, pc63, rfl⟩ := hm63.pd.len
                                refine ⟨.inr SU, ?_⟩
                                exact (by
                                  refine p_step (by exact rfl) (y_nil (et (gS rfl (gS rfl (gS rfl (gS rfl (gS rfl (gS rfl (gS rfl (gS rfl (gS rfl g0))))))))) rfl)) ?_
                                  refine p_step (by exact rfl) (y_fld fld_84_9 (et g0 rfl)) ?_
                                  refine p_effN (by exact rfl) (e_store sz_81 (et g0 rfl) (cellsV (et (gS rfl (gS rfl g0)) rfl) rfl) rfl (by intro v hv; simp at hv; subst hv; rfl) hT.m.kC (by rw [hT.m.size]; exact Nat.le_of_ble_eq_true rfl)) (fun v64 w64 h64 => ?_)
                                  obtain ⟨rfl, x64⟩ := h64
                                  obtain ⟨col4, hv64, hq64⟩ := hT.layT hml x64
                                  replace k2 := k2.ch x64.ch (by intro hm; first | omega | (subst hm; omega))
                                  replace k3 := k3.ch x64.ch (by intro hm; first | omega | (subst hm; omega))
                                  replace hT := hv64
                                  replace U := U.cc x64.ch (by intro b hb; exact .inl trivial)
                                  replace nc2 := (hq64 b2 lt2).trans nc2
                                  replace nc3 := (hq64 b3 lt3).trans nc3
                                  replace hcC := hT.vl.colC
                                  refine ⟨.inl rfl, ?_⟩
                                  refine p_nil ?_
                                  refine hK60 _ _ ?_
                                  refine fg3 0 14 10 (gS rfl (gS rfl (gS rfl (gS rfl (gS rfl (gS rfl (gS rfl (gS rfl (gS rfl (gS rfl (gS rfl (gS rfl (gS rfl (gS rfl (gS rfl (gS rfl g0)))))))))))))))) (gS rfl (gS rfl (gS rfl (gS rfl (gS rfl (gS rfl (gS rfl (gS rfl (gS rfl (gS rfl (gS rfl (gS rfl (gS rfl g0))))))))))))) (gS rfl (gS rfl (gS rfl (gS rfl (gS rfl (gS rfl (gS rfl (gS rfl (gS rfl (gS rfl (gS rfl (gS rfl g0)))))))))))) (fun g => ?_)
                                  refine c_seq (fun K65 hK65 => ?_)
                                  exact (by
                                    refine c_region ?_
                                    refine l_step (y_moveV (et (gS rfl (gS rfl g0)) rfl)) ?_
                                    refine l_step (y_nil (et g0 rfl)) ?_
                                    refine l_step (y_fld fld_84_10 (et g0 rfl)) ?_
                                    obtain ⟨b8, c8, hQ8⟩ := hT.vl.tab htm
                                    have hz8 := hQ8.sz
                                    have hc8 := hQ8.col
                                    refine l_step (y_load1 one_82 (et g0 rfl) (at1 (hT.vl.c1 hQ8.sl rfl))) ?_
                                    refine l_step (y_moveV (et (gS rfl (gS rfl (gS rfl (gS rfl (gS rfl g0))))) rfl)) ?_
                                    refine l_step (y_moveV (et (gS rfl (gS rfl (gS rfl (gS rfl (gS rfl g0))))) rfl)) ?_
                                    refine l_step (y_idxS Hvaa.underlying82 sz_21 (et (gS rfl (gS rfl g0)) rfl) (et (gS rfl g0) rfl) ?_ ?_) ?_
                                    omega
                                    omega
                                    refine l_effN (e_store sz_21 (et g0 rfl) (cellsV (et (gS rfl g0) rfl) rfl) rfl (by intro v hv; simp at hv; subst hv; rfl) hQ8.kT (by rw [hz8]; omega)) (fun v66 w66 h66 => ?_)
                                    obtain ⟨rfl, x66⟩ := h66
                                    have hv66 := hT.stTt hQ8 htm hp4 (by omega) x66
                                    replace k2 := k2.ch x66.ch (by intro hm; first | omega | (subst hm; omega))
                                    replace k3 := k3.ch x66.ch (by intro hm; first | omega | (subst hm; omega))
                                    replace hT := hv66
                                    replace U := U.cc x66.ch (by intro b hb; exact .inl trivial)
                                    refine l_nil ?_
                                    refine hK65 _ _ ?_
                                    refine fg1 10 (gS rfl (gS rfl (gS rfl (gS rfl (gS rfl (gS rfl (gS rfl g0))))))) (fun g => ?_)
                                    refine c_seq (fun K67 hK67 => ?_)
                                    exact (by
                                      refine c_region ?_
                                      refine l_step (y_moveV (et g0 rfl)) ?_
                                      refine l_step (y_assignV (et g0 rfl)) ?_
                                      refine l_step y_assignC ?_
                                      refine l_nil ?_
                                      refine hK67 _ _ ?_
                                      refine fg2 6 7 (gS rfl g0) g0 (fun g => ?_)
                                      refine c_ret ?_
                                      repeat with_reducible refine then_ret ?_
                                      refine ret2 rfl (res_tmp (et (gS rfl g0) rfl)) (res_tmp (et g0 rfl)) ?_
                                      have hL9 := VOk.layT ho3 hn2 (by show i9 < V2.accts.length; omega) (by show V2.temps.length < _; rw [htt]; omega) htm hfr4
                                      have hL7 : Lay V2 { V2 with temps := V2.temps ++ [blankT i9 k], ttb := updT V2.ttb p4 V2.temps.length } 0 0 1 := ⟨hL9, Ext.layT _ i9 k _, rfl, rfl, by simp, by simp, by simp⟩
                                      have hL8 := hLy3.trans hL7
                                      have hnt1 : nt = 1 := hrt2.2
                                      subst hnt1
                                      exact ⟨V2.temps.length, blankT i9 k, _, _, _, rfl, hT, by simpa using hL8, hasA_of hx8 hxa8, by show (V2.temps ++ [_])[_]? = _; simp, (ai_eq hL9 hx8 hxa8).symm, rfl⟩)))))))))))))))))
theorem v_tempOf0 {w : World} {H : Store} {col : Nat → Nat} {bc : Nat} {cs : Array Value} {V : EV} (hV : VL w H col bc cs V) (ho : VOk V) (a k : Nat) (ha : a < A160) (hk : k < W256) (na nt : Nat) (hr : (hasA V a ∧ na = 0) ∨ (V.accts.length < 2560 ∧ na = 1)) (hrt : (hasT V a k ∧ nt = 0) ∨ (V.temps.length < 12288 ∧ nt = 1)) (htm0 : V.tm = false) :
    Ret 383 [.pointer (some ⟨bc, 2435, none⟩), aV a, wV k] w (fun v w' => ∃ (i : Nat) (x : ETemp) (col' : Nat → Nat) (cs' : Array Value) (V1 : EV), v = .tuple #[.int .i32 (i : Nat), .bool true] ∧ VT w H col bc cs w' H col' cs' V1 ∧ Lay V V1 na 0 nt ∧ hasA V1 a ∧ V1.temps[i]? = some x ∧ x.acct = ai V1 a ∧ x.key = k) := by
  have hT := VT.refl hV
  have hnw := hV.new
  have hcC := hV.colC
  have hml := ho.bd.marks
  obtain ⟨lt0, lc0, hlT⟩ := hV.lenT
  have htb := ho.bd.temps
  refine enter (n := 107) Hvaa.func383 rfl rfl (Nat.le_of_ble_eq_true rfl) ?_
  have U : Ch (fun _ => True) w w := Ch.refl _ w
  refine c_seq (fun K1 hK1 => ?_)
  exact (by
    refine c_region ?_
    refine l_eff (e_boxV (et (gS rfl g0) rfl)) (fun v2 w2 h2 => ?_)
    obtain ⟨b2, rfl, n2⟩ := h2
    have f2 : w.heap.size ≤ b2 := Nat.le_trans U.size n2.fresh
    replace hT := hT.up n2.up
    replace U := U.tr n2.up
    have k2 := n2.blk
    replace k2 : Blk w2 b2 (bL (be 20 a)).toArray := k2
    have nc2 : col b2 = 0 := hnw _ f2
    refine l_eff (e_boxV (et (gS rfl (gS rfl (gS rfl g0))) rfl)) (fun v3 w3 h3 => ?_)
    obtain ⟨b3, rfl, n3⟩ := h3
    have d2_3 : b2 < b3 := Nat.lt_of_lt_of_le k2.lt n3.fresh
    have f3 : w.heap.size ≤ b3 := Nat.le_trans U.size n3.fresh
    replace k2 := k2.up n3.up
    replace hT := hT.up n3.up
    replace U := U.tr n3.up
    have k3 := n3.blk
    have nc3 : col b3 = 0 := hnw _ f3
    refine l_step y_assignC ?_
    refine l_step y_assignC ?_
    refine l_nil ?_
    refine hK1 _ _ ?_
    refine fg3 0 4 5 (gS rfl (gS rfl (gS rfl (gS rfl g0)))) (gS rfl (gS rfl (gS rfl g0))) (gS rfl (gS rfl g0)) (fun g => ?_)
    refine c_seq (fun K4 hK4 => ?_)
    exact (by
      refine c_region ?_
      refine l_step (y_moveV (et (gS rfl (gS rfl g0)) rfl)) ?_
      refine l_step (y_loadB agg_25 sz_25 (et (gS rfl (gS rfl g0)) rfl) (by rw [List.size_toArray, length_bL, length_be]) (at1B k2)) ?_
      refine l_eff (e_callV cal_159 (aC (et (gS rfl g0) rfl) (aC (et g0 rfl) aN)) (v_findAcct hT.vl ho a ha)) (fun v5 w5 h5 => ?_)
      obtain ⟨i5, f5, rfl, hfd, u5⟩ := h5
      replace k2 := k2.up u5
      replace k3 := k3.up u5
      replace hT := hT.up u5
      replace U := U.tr u5
      refine l_step (y_moveV (et g0 rfl)) ?_
      refine l_step (y_ext (et g0 rfl) rfl) ?_
      refine l_step (y_ext (et (gS rfl g0) rfl) rfl) ?_
      refine l_step (y_assignV (et (gS rfl g0) rfl)) ?_
      refine l_step (y_assignV (et (gS rfl g0) rfl)) ?_
      refine l_nil ?_
      refine hK4 _ _ ?_
      refine fg4 0 4 5 8 (gS rfl (gS rfl (gS rfl (gS rfl (gS rfl (gS rfl (gS rfl (gS rfl (gS rfl (gS rfl g0)))))))))) (gS rfl (gS rfl (gS rfl (gS rfl (gS rfl (gS rfl (gS rfl (gS rfl (gS rfl g0))))))))) (gS rfl (gS rfl (gS rfl (gS rfl (gS rfl (gS rfl (gS rfl (gS rfl g0)))))))) (gS rfl g0) (fun g => ?_)
      refine c_seq (fun K6 hK6 => ?_)
      exact (by
        refine c_region ?_
        refine l_step y_assignC ?_
        refine l_nil ?_
        refine hK6 _ _ ?_
        refine c_seq (fun K7 hK7 => ?_)
        refine c_seq (fun K8 hK8 => ?_)
        exact (by
          refine c_region ?_
          refine l_step (y_moveV (et (gS rfl g0) rfl)) ?_
          refine l_step (y_geq (et g0 rfl) rfl) ?_
          refine l_nil ?_
          refine hK8 _ _ ?_
          refine fg6 0 4 5 8 10 22 (gS rfl (gS rfl (gS rfl (gS rfl (gS rfl (gS rfl g0)))))) (gS rfl (gS rfl (gS rfl (gS rfl (gS rfl g0))))) (gS rfl (gS rfl (gS rfl (gS rfl g0)))) (gS rfl (gS rfl (gS rfl g0))) (gS rfl (gS rfl g0)) g0 (fun g => ?_)
          refine c_cond (et g0 rfl) (fun cB1 => ?_) (fun cB1 => ?_)
          · skip
            
            obtain ⟨k9, ⟨x9, hx9, hxa⟩, hk9, rfl, rfl⟩ := hfd.pos (by have := of_decide_eq_true cB1; omega)
            have hb9 := ho.bd.accts
            have hai := ai_eq ho hx9 hxa
            have hhA := hasA_of hx9 hxa
            exact (by
              refine c_region ?_
              refine l_step (y_moveV (et (gS rfl (gS rfl (gS rfl (gS rfl (gS rfl g0))))) rfl)) ?_
              refine l_step (y_moveV (et (gS rfl (gS rfl (gS rfl g0))) rfl)) ?_
              refine l_step (y_loadB agg_65 sz_65 (et (gS rfl (gS rfl (gS rfl (gS rfl (gS rfl g0))))) rfl) (by first | (simp only [Value.cells, hV, aV, bV, wV, wL, List.size_toArray, length_bL, length_uL, length_be, size_spl, List.length_cons, List.length_nil, List.length_replicate, Nat.zero_add, Nat.reduceAdd, Nat.reduceLeDiff, Nat.le_refl]; done) | rfl) (at1B k3)) ?_
              refine l_eff (e_callV cal_382 (aC (et (gS rfl (gS rfl g0)) rfl) (aC (et (gS rfl g0) rfl) (aC (et g0 rfl) aN))) (v_findTemp hT.vl ho k9 k (by omega) hk)) (fun v10 w10 h10 => ?_)
              obtain ⟨⟨j10, g10⟩, rfl, hfe, u10⟩ := h10
              replace k2 := k2.up u10
              replace k3 := k3.up u10
              replace hT := hT.up u10
              replace U := U.tr u10
              refine l_step (y_moveV (et g0 rfl)) ?_
              refine l_step (y_ext (et g0 rfl) rfl) ?_
              refine l_step (y_ext (et (gS rfl g0) rfl) rfl) ?_
              refine l_step (y_assignV (et (gS rfl g0) rfl)) ?_
              refine l_nil ?_
              refine hK7 _ _ ?_
              refine fg4 0 4 5 10 (gS rfl (gS rfl (gS rfl (gS rfl (gS rfl (gS rfl (gS rfl (gS rfl (gS rfl (gS rfl (gS rfl (gS rfl (gS rfl g0))))))))))))) (gS rfl (gS rfl (gS rfl (gS rfl (gS rfl (gS rfl (gS rfl (gS rfl (gS rfl (gS rfl (gS rfl (gS rfl g0)))))))))))) (gS rfl (gS rfl (gS rfl (gS rfl (gS rfl (gS rfl (gS rfl (gS rfl (gS rfl (gS rfl (gS rfl g0))))))))))) g0 (fun g => ?_)
              refine c_seq (fun K11 hK11 => ?_)
              refine c_seq (fun K12 hK12 => ?_)
              exact (by
                refine c_region ?_
                refine l_step (y_moveV (et g0 rfl)) ?_
                refine l_step (y_geq (et g0 rfl) rfl) ?_
                refine l_nil ?_
                refine hK12 _ _ ?_
                refine fg5 0 4 5 10 31 (gS rfl (gS rfl (gS rfl (gS rfl (gS rfl g0))))) (gS rfl (gS rfl (gS rfl (gS rfl g0)))) (gS rfl (gS rfl (gS rfl g0))) (gS rfl (gS rfl g0)) g0 (fun g => ?_)
                refine c_cond (et g0 rfl) (fun cB2 => ?_) (fun cB2 => ?_)
                · skip
                  
                  obtain ⟨q9, y9, hi9, hy9, hya, hyk⟩ := FdT.pos hfe (by have := of_decide_eq_true cB2; omega)
                  have hi9 : j10 = _ := hi9
                  subst hi9
                  refine c_seq (fun K14 hK14 => ?_)
                  exact (by
                    refine c_region ?_
                    refine l_step (y_moveV (et (gS rfl g0) rfl)) ?_
                    refine l_step (y_assignV (et g0 rfl)) ?_
                    refine l_step y_assignC ?_
                    refine l_nil ?_
                    refine hK14 _ _ ?_
                    refine fg2 6 7 (gS rfl g0) g0 (fun g => ?_)
                    refine c_ret ?_
                    repeat with_reducible refine then_ret ?_
                    refine ret2 rfl (res_tmp (et (gS rfl g0) rfl)) (res_tmp (et g0 rfl)) ?_
                    exact ⟨q9, y9, _, _, V, rfl, hT, ⟨ho, Ext.refl V, rfl, rfl, by omega, by omega, by omega⟩, hhA, hy9, by rw [hya, hai], hyk⟩)
                · skip
                  
                  have hn9 := FdT.neg hfe (by have := of_decide_eq_false cB2; omega)
                  have hnt : ¬ hasT V a k := fun h9 => hn9 (by have h8 := h9.2; rw [hai] at h8; exact h8)
                  refine c_skip ?_
                  refine hK11 _ _ ?_
                  refine fg3 0 4 5 (gS rfl (gS rfl (gS rfl (gS rfl g0)))) (gS rfl (gS rfl (gS rfl g0))) (gS rfl (gS rfl g0)) (fun g => ?_)
                  refine c_seq (fun K15 hK15 => ?_)
                  refine c_seq (fun K16 hK16 => ?_)
                  exact (by
                    refine c_region ?_
                    refine l_step (y_moveV (et (gS rfl (gS rfl g0)) rfl)) ?_
                    refine l_step (y_nil (et g0 rfl)) ?_
                    refine l_step (y_fld fld_84_9 (et g0 rfl)) ?_
                    refine l_step (y_load1 one_81 (et g0 rfl) (at1 (hT.vl.c1 hlT rfl))) ?_
                    refine l_step (y_len Hvaa.underlying81 (et g0 rfl)) ?_
                    refine l_step (y_geq (et g0 rfl) rfl) ?_
                    refine l_nil ?_
                    refine hK16 _ _ ?_
                    refine fg4 0 4 5 38 (gS rfl (gS rfl (gS rfl (gS rfl (gS rfl (gS rfl (gS rfl (gS rfl g0)))))))) (gS rfl (gS rfl (gS rfl (gS rfl (gS rfl (gS rfl (gS rfl g0))))))) (gS rfl (gS rfl (gS rfl (gS rfl (gS rfl (gS rfl g0)))))) g0 (fun g => ?_)
                    refine c_false (et g0 rfl) (by (exact decide_eq_false (by have h9 := hrt.resolve_left (fun h9 => hnt h9.1); omega))) ?_
                    refine c_skip ?_
                    refine hK15 _ _ ?_
                    refine fg3 0 4 5 (gS rfl (gS rfl (gS rfl g0))) (gS rfl (gS rfl g0)) (gS rfl g0) (fun g => ?_)
                    refine c_seq (fun K18 hK18 => ?_)
                    exact (by
                      refine c_region ?_
                      refine l_step (y_moveV (et (gS rfl (gS rfl g0)) rfl)) ?_
                      refine l_step (y_loadB agg_25 sz_25 (et (gS rfl (gS rfl g0)) rfl) (by rw [List.size_toArray, length_bL, length_be]) (at1B k2)) ?_
                      have lt2 := k2.lt
                      have lt3 := k3.lt
                      refine l_eff (e_callV cal_82 (aC (et (gS rfl g0) rfl) (aC (et g0 rfl) aN)) (v_acct hT.vl ho a ha na hr)) (fun v19 w19 h19 => ?_)
                      obtain ⟨i9, x8, col2, cs2, V2, rfl, hT2, hLy, hx8, hxa8, htmE⟩ := h19
                      replace k2 := k2.ch hT2.go.ch (by intro hm; omega)
                      replace k3 := k3.ch hT2.go.ch (by intro hm; omega)
                      replace hT := hT.trans hT2
                      replace U := U.cc hT2.go.ch (by intro b hb; exact .inl trivial)
                      have hq2 := hT2.col
                      replace nc2 := (hq2 b2 lt2).trans nc2
                      replace nc3 := (hq2 b3 lt3).trans nc3
                      replace hcC := hT2.vl.colC
                      replace hml := hLy.ok.bd.marks
                      have hA2 := hasA_of hx8 hxa8
                      have hi8 := (List.getElem?_eq_some_iff.1 hx8).1
                      have hb8 := hLy.ok.bd.accts
                      have htt := hLy.temps0
                      have hrt2 := hrt.resolve_left (fun h9 => hnt h9.1)
                      have hn2 : (i9, k) ∉ tKs V2.temps := by
                        rw [htt]
                        intro h9
                        by_cases h8 : hasA V a
                        · exact hnt ⟨h8, by have h7 := hLy.ext.ai h8; rw [ai_eq hLy.ok hx8 hxa8] at h7; rw [← h7]; exact h9⟩
                        · have h6 := tKs_lt ho.ta h9
                          have h7 := hLy.ext.ai_ge h8
                          rw [ai_eq hLy.ok hx8 hxa8] at h7
                          exact absurd h6 (by show ¬ i9 < _; omega)
                      have hv5 := hT2.vl
                      have hh5 : ∀ q, w.heap.size ≤ q → ¬ H.has q := fun q hq hh => by have := hV.fz.lt hh; omega
                      have htm2 : V2.tm = false := by rw [htmE]; exact htm0
                      have hsl5 := hT2.vl.tab0 htm2
                      have ho3 := hLy.ok.newT htm2
                      have hLy3 : Lay V { V2 with tm := true, ttb := ttN 16384 } na 0 0 := ⟨ho3, ⟨hLy.ext.a, hLy.ext.s, hLy.ext.t, hLy.ext.ref, hLy.ext.logs⟩, hLy.j, hLy.m, hLy.na, hLy.ns, hLy.nt⟩
                      have htm : ({ V2 with tm := true, ttb := ttN 16384 } : EV).tm = true := rfl
                      exact (by
                        refine l_step (y_moveV (et g0 rfl)) ?_
                        refine l_step (y_ext (et g0 rfl) rfl) ?_
                        refine l_step (y_ext (et (gS rfl g0) rfl) rfl) ?_
                        refine l_step (y_assignV (et (gS rfl g0) rfl)) ?_
                        refine l_step (y_assignV (et (gS rfl g0) rfl)) ?_
                        refine l_nil ?_
                        refine hK18 _ _ ?_
                        refine fg4 0 5 8 11 (gS rfl (gS rfl (gS rfl (gS rfl (gS rfl (gS rfl (gS rfl (gS rfl (gS rfl (gS rfl g0)))))))))) (gS rfl (gS rfl (gS rfl (gS rfl (gS rfl (gS rfl (gS rfl (gS rfl g0)))))))) (gS rfl g0) g0 (fun g => ?_)
                        refine c_seq (fun K20 hK20 => ?_)
                        refine c_seq (fun K21 hK21 => ?_)
                        exact (by
                          refine c_region ?_
                          refine l_step (y_moveV (et g0 rfl)) ?_
                          refine l_step (y_not (et g0 rfl)) ?_
                          refine l_nil ?_
                          refine hK21 _ _ ?_
                          refine fg4 0 5 8 46 (gS rfl (gS rfl (gS rfl (gS rfl (gS rfl g0))))) (gS rfl (gS rfl (gS rfl (gS rfl g0)))) (gS rfl (gS rfl (gS rfl g0))) g0 (fun g => ?_)
                          refine c_false (et g0 rfl) (by rfl) ?_
                          refine c_skip ?_
                          refine hK20 _ _ ?_
                          refine fg3 0 5 8 (gS rfl (gS rfl (gS rfl g0))) (gS rfl (gS rfl g0)) (gS rfl g0) (fun g => ?_)
                          refine c_seq (fun K23 hK23 => ?_)
                          refine c_seq (fun K24 hK24 => ?_)
                          exact (by
                            refine c_region ?_
                            refine l_step (y_moveV (et (gS rfl (gS rfl g0)) rfl)) ?_
                            refine l_step (y_nil (et g0 rfl)) ?_
                            refine l_step (y_fld fld_84_10 (et g0 rfl)) ?_
                            refine l_step (y_load1 one_82 (et g0 rfl) (at1 (hT.vl.c1 hsl5 rfl))) ?_
                            refine l_step (y_len Hvaa.underlying82 (et g0 rfl)) ?_
                            refine l_step (y_neq (et g0 rfl) rfl) ?_
                            refine l_nil ?_
                            refine hK24 _ _ ?_
                            refine fg4 0 5 8 52 (gS rfl (gS rfl (gS rfl (gS rfl (gS rfl (gS rfl (gS rfl (gS rfl g0)))))))) (gS rfl (gS rfl (gS rfl (gS rfl (gS rfl (gS rfl (gS rfl g0))))))) (gS rfl (gS rfl (gS rfl (gS rfl (gS rfl (gS rfl g0)))))) g0 (fun g => ?_)
                            refine c_true (et g0 rfl) (by rfl) ?_
                            refine c_seq (fun K26 hK26 => ?_)
                            exact (by
                              refine c_region ?_
                              refine l_step (y_moveV (et (gS rfl (gS rfl (gS rfl g0))) rfl)) ?_
                              have lt2 := k2.lt
                              have lt3 := k3.lt
                              have hT6 := hT
                              refine l_eff (e_make (m := 16384) Hvaa.underlying82 sz_21 zr_21 by_21 rfl rfl (by omega) (by omega)) (fun v27 w27 h27 => ?_)
                              obtain ⟨b27, rfl, n27⟩ := h27
                              have d2_27 : b2 < b27 := Nat.lt_of_lt_of_le k2.lt n27.fresh
                              have d3_27 : b3 < b27 := Nat.lt_of_lt_of_le k3.lt n27.fresh
                              have f27 : w.heap.size ≤ b27 := Nat.le_trans U.size n27.fresh
                              replace k2 := k2.up n27.up
                              replace k3 := k3.up n27.up
                              replace hT := hT.up n27.up
                              replace U := U.tr n27.up
                              have k27 := n27.blk
                              skip
                              refine l_step (y_nil (et (gS rfl g0) rfl)) ?_
                              refine l_step (y_fld fld_84_10 (et g0 rfl)) ?_
                              refine l_effN (e_store sz_82 (et g0 rfl) (cellsV (et (gS rfl (gS rfl g0)) rfl) rfl) rfl (by intro v hv; simp at hv; subst hv; rfl) hT.vl.kC (by rw [hT.vl.size]; exact Nat.le_of_ble_eq_true rfl)) (fun v28 w28 h28 => ?_)
                              obtain ⟨rfl, x28⟩ := h28
                              obtain ⟨col3, hv28, hq28⟩ := hT.newT hml (T := ttN 0) k27 (hT6.vl.new _ n27.fresh) (hh5 _ f27) f27 (by rw [size_made]) (fun p hp => tt_zero _ p hp) x28
                              replace k2 := k2.ch x28.ch (by intro hm; first | omega | (subst hm; omega))
                              replace k3 := k3.ch x28.ch (by intro hm; first | omega | (subst hm; omega))
                              replace hT := hv28
                              replace U := U.cc x28.ch (by intro b hb; exact .inl trivial)
                              replace nc2 := (hq28 b2 (by omega)).trans nc2
                              replace nc3 := (hq28 b3 (by omega)).trans nc3
                              replace hcC := hT.vl.colC
                              obtain ⟨cs3, hT⟩ : ∃ cs3, VT w H col bc cs w28 H col3 cs3 { V2 with tm := true, ttb := ttN 0 } := ⟨_, hT⟩
                              refine l_nil ?_
                              refine hK26 _ _ ?_
                              refine fg3 0 5 8 (gS rfl (gS rfl (gS rfl (gS rfl (gS rfl (gS rfl (gS rfl g0))))))) (gS rfl (gS rfl (gS rfl (gS rfl (gS rfl (gS rfl g0)))))) (gS rfl (gS rfl (gS rfl (gS rfl (gS rfl g0))))) (fun g => ?_)
                              refine c_seq (fun K29 hK29 => ?_)
                              exact (by
                                refine c_region ?_
                                refine l_step (y_moveV (et (gS rfl (gS rfl g0)) rfl)) ?_
                                refine l_step (y_nil (et g0 rfl)) ?_
                                refine l_step (y_fld fld_84_10 (et g0 rfl)) ?_
                                obtain ⟨b6, c6, hQ6⟩ := hT.vl.tab rfl
                                have hsl6 := hQ6.sl
                                refine l_step (y_load1 one_82 (et g0 rfl) (at1 (hT.vl.c1 hsl6 rfl))) ?_
                                refine l_step (y_len Hvaa.underlying82 (et g0 rfl)) ?_
                                refine l_step y_moveC ?_
                                refine l_nil ?_
                                refine hK29 _ _ ?_
                                refine fg5 0 5 8 61 62 (gS rfl (gS rfl (gS rfl (gS rfl (gS rfl (gS rfl (gS rfl (gS rfl g0)))))))) (gS rfl (gS rfl (gS rfl (gS rfl (gS rfl (gS rfl (gS rfl g0))))))) (gS rfl (gS rfl (gS rfl (gS rfl (gS rfl (gS rfl g0)))))) (gS rfl g0) g0 (fun g => ?_)
                                refine c_block (fun Q30 hQ30 => ?_)
                                refine fg5 0 5 8 61 62 (gS rfl (gS rfl (gS rfl (gS rfl g0)))) (gS rfl (gS rfl (gS rfl g0))) (gS rfl (gS rfl g0)) (gS rfl g0) g0 (fun g => ?_)
                                refine c_loop (fun k_ s_ W31 => ∃ (g : Nat → Value) (n : Nat), s_ = (upd (upd (upd (upd (upd g 0 (.pointer (some ⟨bc, 2435, none⟩))) 5 (.pointer (some ⟨b3, 0, none⟩))) 8 (.int .i32 (i9 : Nat))) 61 (.int .i64 (16384 : Nat))) 62 (.int .i64 (n : Nat))) ∧ 16384 - n = k_ ∧ (n ≤ 16384) ∧ (VT w H col bc cs W31 H col3 cs3 { V2 with tm := true, ttb := ttN n }) ∧ (Blk W31 b3 ((wL k).toArray))) (16384 - (0)) ?_ ?_
                                · exact ⟨g, 0, rfl, rfl, Nat.zero_le _, hT, k3⟩
                                · skip
                                  intro k_ s_ W31 hI K31 hK31
                                  clear k3
                                  obtain ⟨g, n, rfl, rfl, hn, hT, k3⟩ := hI
                                  have U : Ch (fun _ => True) w W31 := hT.go.ch.mono (fun _ _ _ => trivial)
                                  refine c_seq (fun K32 hK32 => ?_)
                                  exact (by
                                    refine c_region ?_
                                    refine l_step (y_lss (et g0 rfl) (et (gS rfl g0) rfl)) ?_
                                    refine l_nil ?_
                                    refine hK32 _ _ ?_
                                    refine c_seq (fun K33 hK33 => ?_)
                                    refine c_cond (et g0 rfl) (fun cB6 => ?_) (fun cB6 => ?_)
                                    · skip
                                      
                                      have hnl : n < 16384 := by have := of_decide_eq_true cB6; omega
                                      refine c_skip ?_
                                      refine hK33 _ _ ?_
                                      refine fg5 0 5 8 61 62 (gS rfl (gS rfl (gS rfl (gS rfl (gS rfl g0))))) (gS rfl (gS rfl (gS rfl (gS rfl g0)))) (gS rfl (gS rfl (gS rfl g0))) (gS rfl (gS rfl g0)) (gS rfl g0) (fun g => ?_)
                                      refine c_seq (fun K35 hK35 => ?_)
                                      refine c_block (fun Q36 hQ36 => ?_)
                                      refine c_seq (fun K37 hK37 => ?_)
                                      exact (by
                                        refine c_region ?_
                                        refine l_step (y_moveV (et g0 rfl)) ?_
                                        refine l_step (y_assignV (et g0 rfl)) ?_
                                        refine l_nil ?_
                                        refine hK37 _ _ ?_
                                        refine fg6 0 5 8 61 62 12 (gS rfl (gS rfl (gS rfl (gS rfl (gS rfl (gS rfl g0)))))) (gS rfl (gS rfl (gS rfl (gS rfl (gS rfl g0))))) (gS rfl (gS rfl (gS rfl (gS rfl g0)))) (gS rfl (gS rfl (gS rfl g0))) (gS rfl (gS rfl g0)) g0 (fun g => ?_)
                                        refine c_region ?_
                                        refine l_step (y_moveV (et (gS rfl (gS rfl (gS rfl (gS rfl (gS rfl g0))))) rfl)) ?_
                                        refine l_step (y_nil (et g0 rfl)) ?_
                                        refine l_step (y_fld fld_84_10 (et g0 rfl)) ?_
                                        obtain ⟨b7, c7, hQ7⟩ := hT.vl.tab rfl
                                        have hz7 := hQ7.sz
                                        refine l_step (y_load1 one_82 (et g0 rfl) (at1 (hT.vl.c1 hQ7.sl rfl))) ?_
                                        refine l_step (y_moveV (et (gS rfl (gS rfl (gS rfl (gS rfl g0)))) rfl)) ?_
                                        refine l_step (y_idxS Hvaa.underlying82 sz_21 (et (gS rfl g0) rfl) (et g0 rfl) ?_ ?_) ?_
                                        omega
                                        omega
                                        refine l_effN (e_store sz_21 (et g0 rfl) (cellsV rfl rfl) rfl (by intro v hv; simp at hv; subst hv; rfl) hQ7.kT (by rw [hz7]; omega)) (fun v38 w38 h38 => ?_)
                                        obtain ⟨rfl, x38⟩ := h38
                                        have hv38 := hT.stTt hQ7 rfl hnl (by omega) x38
                                        have hc7 := hQ7.col
                                        replace k3 := k3.ch x38.ch (by intro hm; first | omega | (subst hm; omega))
                                        replace hT := hv38
                                        replace U := U.cc x38.ch (by intro b hb; exact .inl trivial)
                                        refine l_nil ?_
                                        refine hQ36 _ _ _ (in_normal ?_)
                                        refine hK35 _ _ ?_
                                        refine fg5 0 5 8 61 62 (gS rfl (gS rfl (gS rfl (gS rfl (gS rfl (gS rfl (gS rfl (gS rfl (gS rfl (gS rfl (gS rfl g0))))))))))) (gS rfl (gS rfl (gS rfl (gS rfl (gS rfl (gS rfl (gS rfl (gS rfl (gS rfl (gS rfl g0)))))))))) (gS rfl (gS rfl (gS rfl (gS rfl (gS rfl (gS rfl (gS rfl (gS rfl (gS rfl g0))))))))) (gS rfl (gS rfl (gS rfl (gS rfl (gS rfl (gS rfl (gS rfl (gS rfl g0)))))))) (gS rfl (gS rfl (gS rfl (gS rfl (gS rfl (gS rfl (gS rfl g0))))))) (fun g => ?_)
                                        refine c_region ?_
                                        refine l_step (y_add (et g0 rfl) rfl (addIN (y := 1) ?_)) ?_
                                        omega
                                        exact (by
                                          refine l_step (y_moveV (et g0 rfl)) ?_
                                          refine l_nil ?_
                                          refine fK5 0 5 8 61 62 (gS rfl (gS rfl (gS rfl (gS rfl (gS rfl (gS rfl g0)))))) (gS rfl (gS rfl (gS rfl (gS rfl (gS rfl g0))))) (gS rfl (gS rfl (gS rfl (gS rfl g0)))) (gS rfl (gS rfl (gS rfl g0))) g0 (fun g => ?_)
                                          exact hK31 (16384 - ((n + 1))) _ _ (by omega) ⟨g, (n + 1), rfl, rfl, by omega, by rw [← ttN_next]; exact hT, k3⟩))
                                    · skip
                                      
                                      have hnl : n = 16384 := by have := of_decide_eq_false cB6; omega
                                      subst hnl
                                      refine c_exit ?_
                                      refine hQ30 _ _ _ (in_exit ?_)
                                      refine hK23 _ _ ?_
                                      refine fg3 0 5 8 (gS rfl (gS rfl (gS rfl (gS rfl (gS rfl g0))))) (gS rfl (gS rfl (gS rfl (gS rfl g0)))) (gS rfl (gS rfl (gS rfl g0))) (fun g => ?_)
                                      refine c_seq (fun K39 hK39 => ?_)
                                      exact (by
                                        refine c_region ?_
                                        refine l_step (y_moveV (et (gS rfl (gS rfl g0)) rfl)) ?_
                                        refine l_step (y_moveV (et (gS rfl g0) rfl)) ?_
                                        refine l_step (y_loadB agg_65 sz_65 (et (gS rfl (gS rfl (gS rfl g0))) rfl) (by first | (simp only [Value.cells, hV, aV, bV, wV, wL, List.size_toArray, length_bL, length_uL, length_be, size_spl, List.length_cons, List.length_nil, List.length_replicate, Nat.zero_add, Nat.reduceAdd, Nat.reduceLeDiff, Nat.le_refl]; done) | rfl) (at1B k3)) ?_
                                        refine l_eff (e_callV cal_382 (aC (et (gS rfl (gS rfl g0)) rfl) (aC (et (gS rfl g0) rfl) (aC (et g0 rfl) aN))) (v_findTemp1 hT.vl ho3 i9 k (by omega) hk htm)) (fun v40 w40 h40 => ?_)
                                        obtain ⟨j40, f40, rfl, hf4, u40⟩ := h40
                                        replace k3 := k3.up u40
                                        replace hT := hT.up u40
                                        replace U := U.tr u40
                                        obtain ⟨_, rfl, p4, rfl, hfr4⟩ := hf4.resolve_left (fun ⟨q4, ⟨y4, hy4, hya4, hyk4⟩, _⟩ => hn2 (List.mem_of_getElem? (tKs_get.2 ⟨y4, hy4, hya4, hyk4⟩)))
                                        have hp4 := hfr4.lt
                                        obtain ⟨lt9, lc9, hlT4⟩ := hT.vl.lenT
                                        have htl4 : ({ V2 with tm := true, ttb := ttN 16384 } : EV).temps.length = V.temps.length := by show V2.temps.length = _; rw [htt]
                                        refine l_step (y_moveV (et g0 rfl)) ?_
                                        refine l_step (y_ext (et g0 rfl) rfl) ?_
                                        refine l_step (y_ext (et (gS rfl g0) rfl) rfl) ?_
                                        refine l_step (y_assignV (et (gS rfl g0) rfl)) ?_
                                        refine l_step (y_assignV (et (gS rfl g0) rfl)) ?_
                                        refine l_nil ?_
                                        refine hK39 _ _ ?_
                                        refine fg4 0 5 8 14 (gS rfl (gS rfl (gS rfl (gS rfl (gS rfl (gS rfl (gS rfl (gS rfl (gS rfl (gS rfl (gS rfl g0))))))))))) (gS rfl (gS rfl (gS rfl (gS rfl (gS rfl (gS rfl (gS rfl (gS rfl (gS rfl (gS rfl g0)))))))))) (gS rfl (gS rfl (gS rfl (gS rfl (gS rfl (gS rfl (gS rfl (gS rfl (gS rfl g0))))))))) g0 (fun g => ?_)
                                        refine c_seq (fun K41 hK41 => ?_)
                                        refine c_seq (fun K42 hK42 => ?_)
                                        exact (by
                                          refine c_region ?_
                                          refine l_step (y_moveV (et g0 rfl)) ?_
                                          refine l_step (y_lss (et g0 rfl) rfl) ?_
                                          refine l_nil ?_
                                          refine hK42 _ _ ?_
                                          refine fg5 0 5 8 14 80 (gS rfl (gS rfl (gS rfl (gS rfl (gS rfl g0))))) (gS rfl (gS rfl (gS rfl (gS rfl g0)))) (gS rfl (gS rfl (gS rfl g0))) (gS rfl (gS rfl g0)) g0 (fun g => ?_)
                                          refine c_false (et g0 rfl) (by (exact decide_eq_false (by omega))) ?_
                                          refine c_skip ?_
                                          refine hK41 _ _ ?_
                                          refine fg4 0 5 8 14 (gS rfl (gS rfl (gS rfl (gS rfl g0)))) (gS rfl (gS rfl (gS rfl g0))) (gS rfl (gS rfl g0)) (gS rfl g0) (fun g => ?_)
                                          refine c_seq (fun K44 hK44 => ?_)
                                          exact (by
                                            refine c_region ?_
                                            refine l_step (y_moveV (et (gS rfl (gS rfl (gS rfl g0))) rfl)) ?_
                                            refine l_step (y_nil (et g0 rfl)) ?_
                                            refine l_step (y_fld fld_84_9 (et g0 rfl)) ?_
                                            refine l_step (y_load1 one_81 (et g0 rfl) (at1 (hT.vl.c1 hlT4 rfl))) ?_
                                            refine l_step (y_len Hvaa.underlying81 (et g0 rfl)) ?_
                                            refine l_step (y_conv Hvaa.underlying3 Hvaa.underlying21 (et g0 rfl) (wrap_i32 ?_ ?_)) ?_
                                            omega
                                            (have h9 := htl4; omega)
                                            refine l_step (y_assignV (et g0 rfl)) ?_
                                            refine l_nil ?_
                                            refine hK44 _ _ ?_
                                            refine fg5 0 5 8 14 10 (gS rfl (gS rfl (gS rfl (gS rfl (gS rfl (gS rfl (gS rfl (gS rfl (gS rfl (gS rfl g0)))))))))) (gS rfl (gS rfl (gS rfl (gS rfl (gS rfl (gS rfl (gS rfl (gS rfl (gS rfl g0))))))))) (gS rfl (gS rfl (gS rfl (gS rfl (gS rfl (gS rfl (gS rfl (gS rfl g0)))))))) (gS rfl (gS rfl (gS rfl (gS rfl (gS rfl (gS rfl (gS rfl g0))))))) g0 (fun g => ?_)
                                            refine c_seq (fun K45 hK45 => ?_)
                                            exact (by
                                              refine c_draw (Ch (fun k => col3 k = 6)) 12 [(0, true), (1, true), (2, true), (3, true), (4, true), (5, true), (6, true), (7, true), (8, false), (9, false), (10, true), (11, true), (12, false)] (by kernel_rfl) (fun w46 hu => ⟨Ch.refl _ _, ?_⟩)
                                              replace k3 := k3.up hu
                                              replace hT := hT.up hu
                                              replace U := U.tr hu
                                              have SU : (Ch (fun k => col3 k = 6)) w46 w46 := Ch.refl _ _
                                              refine p_step (by exact rfl) (y_moveV (et (gS rfl (gS rfl (gS rfl (gS rfl g0)))) rfl)) ?_
                                              refine p_step (by exact rfl) (y_moveV (et (gS rfl (gS rfl (gS rfl (gS rfl (gS rfl g0))))) rfl)) ?_
                                              refine p_step (by exact rfl) (y_nil (et g0 rfl)) ?_
                                              refine p_step (by exact rfl) (y_fld fld_84_9 (et g0 rfl)) ?_
                                              refine p_step (by exact rfl) (y_load1 one_81 (et g0 rfl) (atC (hT.vl.c1 hlT4 rfl) (by intro hm; omega))) ?_
                                              refine p_step (by exact rfl) (y_moveV (et (gS rfl (gS rfl (gS rfl (gS rfl (gS rfl (gS rfl (gS rfl g0))))))) rfl)) ?_
                                              refine p_step (by exact rfl) (y_loadB agg_65 sz_65 (et (gS rfl (gS rfl (gS rfl (gS rfl (gS rfl (gS rfl (gS rfl (gS rfl (gS rfl g0))))))))) rfl) (by first | (simp only [Value.cells, hV, aV, bV, wV, wL, List.size_toArray, length_bL, length_uL, length_be, size_spl, List.length_cons, List.length_nil, List.length_replicate, Nat.zero_add, Nat.reduceAdd, Nat.reduceLeDiff, Nat.le_refl]; done) | rfl) (atCB k3 (by intro hm; omega))) ?_
                                              refine p_step (by exact rfl) (y_bldET (et (gS rfl g0) rfl) (et g0 rfl)) ?_
                                              refine p_eff (by exact rfl) (e_slice1 (k := 8) Hvaa.underlying81 sz_430 zr_430 rfl (by decide) (et g0 rfl) (show (etC (blankT i9 k)).toArray.size = 9 by rw [List.size_toArray, etC_len _])) (fun v47 w47 h47 => ?_)
                                              obtain ⟨bb47, rfl, nn47⟩ := h47
                                              replace k3 := k3.up nn47.up
                                              replace hT := hT.up nn47.up
                                              replace U := U.tr nn47.up
                                              have kk47 : Blk w47 bb47 (etC (blankT i9 k)).toArray := nn47.blk
                                              refine ⟨.inr (SU.tr nn47.up), ?_⟩
                                              replace SU := SU.tr nn47.up
                                              have lt3 := k3.lt
                                              refine p_eff (by exact rfl) (e_appT (y := blankT i9 k) (news := etC (blankT i9 k)) Hvaa.underlying81 sz_430 zr_430 by_430 rfl (by decide) (et (gS rfl (gS rfl (gS rfl (gS rfl g0)))) rfl) hT hT.vl.tem hlT4 (by decide) (by decide) (et g0 rfl) kk47 (etC_len _) one_etC ⟨rfl, ⟨show i9 < 2560 by omega, hk, show 0 < W256 by decide⟩⟩ (by decide) (by have h9 := htl4; omega)) (fun v48 w48 h48 => ?_)
                                              obtain ⟨hm48, ch48⟩ := h48
                                              replace k3 := k3.ch ch48 (by intro hm; first | omega | (subst hm; omega))
                                              replace hT := hm48
                                              replace U := U.cc ch48 (by intro b hb; exact .inl trivial)
                                              replace SU := SU.cc ch48 (by intro b hb; first | exact .inl hb | exact hb.elim | omega | (have h9 := hOo.lim b hb.symm; first | exact .inl (by omega) | omega))
                                              obtain ⟨pa48, pc48, rfl⟩ := hm48.pd.len
                                              refine ⟨.inr SU, ?_⟩
                                              refine p_step (by exact rfl) (y_nil (et (gS rfl (gS rfl (gS rfl (gS rfl (gS rfl (gS rfl (gS rfl (gS rfl (gS rfl g0))))))))) rfl)) ?_
                                              exact (by
                                                refine p_step (by exact rfl) (y_fld fld_84_9 (et g0 rfl)) ?_
                                                refine p_effN (by exact rfl) (e_store sz_81 (et g0 rfl) (cellsV (et (gS rfl (gS rfl g0)) rfl) rfl) rfl (by intro v hv; simp at hv; subst hv; rfl) hT.m.kC (by rw [hT.m.size]; exact Nat.le_of_ble_eq_true rfl)) (fun v49 w49 h49 => ?_)
                                                obtain ⟨rfl, x49⟩ := h49
                                                obtain ⟨col4, hv49, hq49⟩ := hT.layT hml x49
                                                replace k3 := k3.ch x49.ch (by intro hm; first | omega | (subst hm; omega))
                                                replace hT := hv49
                                                replace U := U.cc x49.ch (by intro b hb; exact .inl trivial)
                                                replace nc3 := (hq49 b3 lt3).trans nc3
                                                replace hcC := hT.vl.colC
                                                refine ⟨.inl rfl, ?_⟩
                                                refine p_nil ?_
                                                refine hK45 _ _ ?_
                                                refine fg3 0 14 10 (gS rfl (gS rfl (gS rfl (gS rfl (gS rfl (gS rfl (gS rfl (gS rfl (gS rfl (gS rfl (gS rfl (gS rfl (gS rfl (gS rfl (gS rfl (gS rfl g0)))))))))))))))) (gS rfl (gS rfl (gS rfl (gS rfl (gS rfl (gS rfl (gS rfl (gS rfl (gS rfl (gS rfl (gS rfl (gS rfl (gS rfl g0))))))))))))) (gS rfl (gS rfl (gS rfl (gS rfl (gS rfl (gS rfl (gS rfl (gS rfl (gS rfl (gS rfl (gS rfl (gS rfl g0)))))))))))) (fun g => ?_)
                                                refine c_seq (fun K50 hK50 => ?_)
                                                exact (by
                                                  refine c_region ?_
                                                  refine l_step (y_moveV (et (gS rfl (gS rfl g0)) rfl)) ?_
                                                  refine l_step (y_nil (et g0 rfl)) ?_
                                                  refine l_step (y_fld fld_84_10 (et g0 rfl)) ?_
                                                  obtain ⟨b8, c8, hQ8⟩ := hT.vl.tab htm
                                                  have hz8 := hQ8.sz
                                                  have hc8 := hQ8.col
                                                  refine l_step (y_load1 one_82 (et g0 rfl) (at1 (hT.vl.c1 hQ8.sl rfl))) ?_
                                                  refine l_step (y_moveV (et (gS rfl (gS rfl (gS rfl (gS rfl (gS rfl g0))))) rfl)) ?_
                                                  refine l_step (y_moveV (et (gS rfl (gS rfl (gS rfl (gS rfl (gS rfl g0))))) rfl)) ?_
                                                  refine l_step (y_idxS Hvaa.underlying82 sz_21 (et (gS rfl (gS rfl g0)) rfl) (et (gS rfl g0) rfl) ?_ ?_) ?_
                                                  omega
                                                  omega
                                                  refine l_effN (e_store sz_21 (et g0 rfl) (cellsV (et (gS rfl g0) rfl) rfl) rfl (by intro v hv; simp at hv; subst hv; rfl) hQ8.kT (by rw [hz8]; omega)) (fun v51 w51 h51 => ?_)
                                                  obtain ⟨rfl, x51⟩ := h51
                                                  have hv51 := hT.stTt hQ8 htm hp4 (by omega) x51
                                                  replace k3 := k3.ch x51.ch (by intro hm; first | omega | (subst hm; omega))
                                                  replace hT := hv51
                                                  replace U := U.cc x51.ch (by intro b hb; exact .inl trivial)
                                                  refine l_nil ?_
                                                  refine hK50 _ _ ?_
                                                  refine fg1 10 (gS rfl (gS rfl (gS rfl (gS rfl (gS rfl (gS rfl (gS rfl g0))))))) (fun g => ?_)
                                                  refine c_seq (fun K52 hK52 => ?_)
                                                  exact (by
                                                    refine c_region ?_
                                                    refine l_step (y_moveV (et g0 rfl)) ?_
                                                    refine l_step (y_assignV (et g0 rfl)) ?_
                                                    refine l_step y_assignC ?_
                                                    refine l_nil ?_
                                                    refine hK52 _ _ ?_
                                                    refine fg2 6 7 (gS rfl g0) g0 (fun g => ?_)
                                                    refine c_ret ?_
                                                    repeat with_reducible refine then_ret ?_
                                                    refine ret2 rfl (res_tmp (et (gS rfl g0) rfl)) (res_tmp (et g0 rfl)) ?_
                                                    have hL9 := VOk.layT ho3 hn2 (by show i9 < V2.accts.length; omega) (by show V2.temps.length < _; rw [htt]; omega) htm hfr4
                                                    have hL7 : Lay ({ V2 with tm := true, ttb := ttN 16384 } : EV) { ({ V2 with tm := true, ttb := ttN 16384 } : EV) with temps := ({ V2 with tm := true, ttb := ttN 16384 } : EV).temps ++ [blankT i9 k], ttb := updT ({ V2 with tm := true, ttb := ttN 16384 } : EV).ttb p4 ({ V2 with tm := true, ttb := ttN 16384 } : EV).temps.length } 0 0 1 := ⟨hL9, Ext.layT _ i9 k _, rfl, rfl, by simp, by simp, by simp⟩
                                                    have hL8 := hLy3.trans hL7
                                                    have hnt1 : nt = 1 := hrt2.2
                                                    subst hnt1
                                                    exact ⟨V2.temps.length, blankT i9 k, _, _, _, rfl, hT, by simpa using hL8, hasA_of hx8 hxa8, by show (V2.temps ++ [_])[_]? = _; simp, (ai_eq hL9 hx8 hxa8).symm, rfl⟩)))))))))))))))))
          · skip
            
            obtain ⟨hno, rfl, p9, rfl, hfr⟩ := hfd.neg (by have := of_decide_eq_false cB1; omega)
            have hnt : ¬ hasT V a k := fun h9 => mA_no hno h9.1
            refine c_skip ?_
            refine hK7 _ _ ?_
            refine fg4 0 4 5 10 (gS rfl (gS rfl (gS rfl (gS rfl (gS rfl g0))))) (gS rfl (gS rfl (gS rfl (gS rfl g0)))) (gS rfl (gS rfl (gS rfl g0))) (gS rfl g0) (fun g => ?_)
            refine c_seq (fun K53 hK53 => ?_)
            refine c_seq (fun K54 hK54 => ?_)
            exact (by
              refine c_region ?_
              refine l_step (y_moveV (et g0 rfl)) ?_
              refine l_step (y_geq (et g0 rfl) rfl) ?_
              refine l_nil ?_
              refine hK54 _ _ ?_
              refine fg5 0 4 5 10 31 (gS rfl (gS rfl (gS rfl (gS rfl (gS rfl g0))))) (gS rfl (gS rfl (gS rfl (gS rfl g0)))) (gS rfl (gS rfl (gS rfl g0))) (gS rfl (gS rfl g0)) g0 (fun g => ?_)
              refine c_false (et g0 rfl) (by rfl) ?_
              refine c_skip ?_
              refine hK53 _ _ ?_
              refine fg3 0 4 5 (gS rfl (gS rfl (gS rfl (gS rfl g0)))) (gS rfl (gS rfl (gS rfl g0))) (gS rfl (gS rfl g0)) (fun g => ?_)
              refine c_seq (fun K56 hK56 => ?_)
              refine c_seq (fun K57 hK57 => ?_)
              exact (by
                refine c_region ?_
                refine l_step (y_moveV (et (gS rfl (gS rfl g0)) rfl)) ?_
                refine l_step (y_nil (et g0 rfl)) ?_
                refine l_step (y_fld fld_84_9 (et g0 rfl)) ?_
                refine l_step (y_load1 one_81 (et g0 rfl) (at1 (hT.vl.c1 hlT rfl))) ?_
                refine l_step (y_len Hvaa.underlying81 (et g0 rfl)) ?_
                refine l_step (y_geq (et g0 rfl) rfl) ?_
                refine l_nil ?_
                refine hK57 _ _ ?_
                refine fg4 0 4 5 38 (gS rfl (gS rfl (gS rfl (gS rfl (gS rfl (gS rfl (gS rfl (gS rfl g0)))))))) (gS rfl (gS rfl (gS rfl (gS rfl (gS rfl (gS rfl (gS rfl g0))))))) (gS rfl (gS rfl (gS rfl (gS rfl (gS rfl (gS rfl g0)))))) g0 (fun g => ?_)
                refine c_false (et g0 rfl) (by (exact decide_eq_false (by have h9 := hrt.resolve_left (fun h9 => hnt h9.1); omega))) ?_
                refine c_skip ?_
                refine hK56 _ _ ?_
                refine fg3 0 4 5 (gS rfl (gS rfl (gS rfl g0))) (gS rfl (gS rfl g0)) (gS rfl g0) (fun g => ?_)
                refine c_seq (fun K59 hK59 => ?_)
                exact (by
                  refine c_region ?_
                  refine l_step (y_moveV (et (gS rfl (gS rfl g0)) rfl)) ?_
                  refine l_step (y_loadB agg_25 sz_25 (et (gS rfl (gS rfl g0)) rfl) (by rw [List.size_toArray, length_bL, length_be]) (at1B k2)) ?_
                  have lt2 := k2.lt
                  have lt3 := k3.lt
                  refine l_eff (e_callV cal_82 (aC (et (gS rfl g0) rfl) (aC (et g0 rfl) aN)) (v_acct hT.vl ho a ha na hr)) (fun v60 w60 h60 => ?_)
                  obtain ⟨i9, x8, col2, cs2, V2, rfl, hT2, hLy, hx8, hxa8, htmE⟩ := h60
                  replace k2 := k2.ch hT2.go.ch (by intro hm; omega)
                  replace k3 := k3.ch hT2.go.ch (by intro hm; omega)
                  replace hT := hT.trans hT2
                  replace U := U.cc hT2.go.ch (by intro b hb; exact .inl trivial)
                  have hq2 := hT2.col
                  replace nc2 := (hq2 b2 lt2).trans nc2
                  replace nc3 := (hq2 b3 lt3).trans nc3
                  replace hcC := hT2.vl.colC
                  replace hml := hLy.ok.bd.marks
                  have hA2 := hasA_of hx8 hxa8
                  have hi8 := (List.getElem?_eq_some_iff.1 hx8).1
                  have hb8 := hLy.ok.bd.accts
                  have htt := hLy.temps0
                  have hrt2 := hrt.resolve_left (fun h9 => hnt h9.1)
                  have hn2 : (i9, k) ∉ tKs V2.temps := by
                    rw [htt]
                    intro h9
                    by_cases h8 : hasA V a
                    · exact hnt ⟨h8, by have h7 := hLy.ext.ai h8; rw [ai_eq hLy.ok hx8 hxa8] at h7; rw [← h7]; exact h9⟩
                    · have h6 := tKs_lt ho.ta h9
                      have h7 := hLy.ext.ai_ge h8
                      rw [ai_eq hLy.ok hx8 hxa8] at h7
                      exact absurd h6 (by show ¬ i9 < _; omega)
                  have hv5 := hT2.vl
                  have hh5 : ∀ q, w.heap.size ≤ q → ¬ H.has q := fun q hq hh => by have := hV.fz.lt hh; omega
                  have htm2 : V2.tm = false := by rw [htmE]; exact htm0
                  have hsl5 := hT2.vl.tab0 htm2
                  have ho3 := hLy.ok.newT htm2
                  have hLy3 : Lay V { V2 with tm := true, ttb := ttN 16384 } na 0 0 := ⟨ho3, ⟨hLy.ext.a, hLy.ext.s, hLy.ext.t, hLy.ext.ref, hLy.ext.logs⟩, hLy.j, hLy.m, hLy.na, hLy.ns, hLy.nt⟩
                  have htm : ({ V2 with tm := true, ttb := ttN 16384 } : EV).tm = true := rfl
                  exact (by
                    refine l_step (y_moveV (et g0 rfl)) ?_
                    refine l_step (y_ext (et g0 rfl) rfl) ?_
                    refine l_step (y_ext (et (gS rfl g0) rfl) rfl) ?_
                    refine l_step (y_assignV (et (gS rfl g0) rfl)) ?_
                    refine l_step (y_assignV (et (gS rfl g0) rfl)) ?_
                    refine l_nil ?_
                    refine hK59 _ _ ?_
                    refine fg4 0 5 8 11 (gS rfl (gS rfl (gS rfl (gS rfl (gS rfl (gS rfl (gS rfl (gS rfl (gS rfl (gS rfl g0)))))))))) (gS rfl (gS rfl (gS rfl (gS rfl (gS rfl (gS rfl (gS rfl (gS rfl g0)))))))) (gS rfl g0) g0 (fun g => ?_)
                    refine c_seq (fun K61 hK61 => ?_)
                    refine c_seq (fun K62 hK62 => ?_)
                    exact (by
                      refine c_region ?_
                      refine l_step (y_moveV (et g0 rfl)) ?_
                      refine l_step (y_not (et g0 rfl)) ?_
                      refine l_nil ?_
                      refine hK62 _ _ ?_
                      refine fg4 0 5 8 46 (gS rfl (gS rfl (gS rfl (gS rfl (gS rfl g0))))) (gS rfl (gS rfl (gS rfl (gS rfl g0)))) (gS rfl (gS rfl (gS rfl g0))) g0 (fun g => ?_)
                      refine c_false (et g0 rfl) (by rfl) ?_
                      refine c_skip ?_
                      refine hK61 _ _ ?_
                      refine fg3 0 5 8 (gS rfl (gS rfl (gS rfl g0))) (gS rfl (gS rfl g0)) (gS rfl g0) (fun g => ?_)
                      refine c_seq (fun K64 hK64 => ?_)
                      refine c_seq (fun K65 hK65 => ?_)
                      exact (by
                        refine c_region ?_
                        refine l_step (y_moveV (et (gS rfl (gS rfl g0)) rfl)) ?_
                        refine l_step (y_nil (et g0 rfl)) ?_
                        refine l_step (y_fld fld_84_10 (et g0 rfl)) ?_
                        refine l_step (y_load1 one_82 (et g0 rfl) (at1 (hT.vl.c1 hsl5 rfl))) ?_
                        refine l_step (y_len Hvaa.underlying82 (et g0 rfl)) ?_
                        refine l_step (y_neq (et g0 rfl) rfl) ?_
                        refine l_nil ?_
                        refine hK65 _ _ ?_
                        refine fg4 0 5 8 52 (gS rfl (gS rfl (gS rfl (gS rfl (gS rfl (gS rfl (gS rfl (gS rfl g0)))))))) (gS rfl (gS rfl (gS rfl (gS rfl (gS rfl (gS rfl (gS rfl g0))))))) (gS rfl (gS rfl (gS rfl (gS rfl (gS rfl (gS rfl g0)))))) g0 (fun g => ?_)
                        refine c_true (et g0 rfl) (by rfl) ?_
                        refine c_seq (fun K67 hK67 => ?_)
                        exact (by
                          refine c_region ?_
                          refine l_step (y_moveV (et (gS rfl (gS rfl (gS rfl g0))) rfl)) ?_
                          have lt2 := k2.lt
                          have lt3 := k3.lt
                          have hT6 := hT
                          refine l_eff (e_make (m := 16384) Hvaa.underlying82 sz_21 zr_21 by_21 rfl rfl (by omega) (by omega)) (fun v68 w68 h68 => ?_)
                          obtain ⟨b68, rfl, n68⟩ := h68
                          have d2_68 : b2 < b68 := Nat.lt_of_lt_of_le k2.lt n68.fresh
                          have d3_68 : b3 < b68 := Nat.lt_of_lt_of_le k3.lt n68.fresh
                          have f68 : w.heap.size ≤ b68 := Nat.le_trans U.size n68.fresh
                          replace k2 := k2.up n68.up
                          replace k3 := k3.up n68.up
                          replace hT := hT.up n68.up
                          replace U := U.tr n68.up
                          have k68 := n68.blk
                          skip
                          refine l_step (y_nil (et (gS rfl g0) rfl)) ?_
                          refine l_step (y_fld fld_84_10 (et g0 rfl)) ?_
                          refine l_effN (e_store sz_82 (et g0 rfl) (cellsV (et (gS rfl (gS rfl g0)) rfl) rfl) rfl (by intro v hv; simp at hv; subst hv; rfl) hT.vl.kC (by rw [hT.vl.size]; exact Nat.le_of_ble_eq_true rfl)) (fun v69 w69 h69 => ?_)
                          obtain ⟨rfl, x69⟩ := h69
                          obtain ⟨col3, hv69, hq69⟩ := hT.newT hml (T := ttN 0) k68 (hT6.vl.new _ n68.fresh) (hh5 _ f68) f68 (by rw [size_made]) (fun p hp => tt_zero _ p hp) x69
                          replace k2 := k2.ch x69.ch (by intro hm; first | omega | (subst hm; omega))
                          replace k3 := k3.ch x69.ch (by intro hm; first | omega | (subst hm; omega))
                          replace hT := hv69
                          replace U := U.cc x69.ch (by intro b hb; exact .inl trivial)
                          replace nc2 := (hq69 b2 (by omega)).trans nc2
                          replace nc3 := (hq69 b3 (by omega)).trans nc3
                          replace hcC := hT.vl.colC
                          obtain ⟨cs3, hT⟩ : ∃ cs3, VT w H col bc cs w69 H col3 cs3 { V2 with tm := true, ttb := ttN 0 } := ⟨_, hT⟩
                          refine l_nil ?_
                          refine hK67 _ _ ?_
                          refine fg3 0 5 8 (gS rfl (gS rfl (gS rfl (gS rfl (gS rfl (gS rfl (gS rfl g0))))))) (gS rfl (gS rfl (gS rfl (gS rfl (gS rfl (gS rfl g0)))))) (gS rfl (gS rfl (gS rfl (gS rfl (gS rfl g0))))) (fun g => ?_)
                          refine c_seq (fun K70 hK70 => ?_)
                          exact (by
                            refine c_region ?_
                            refine l_step (y_moveV (et (gS rfl (gS rfl g0)) rfl)) ?_
                            refine l_step (y_nil (et g0 rfl)) ?_
                            refine l_step (y_fld fld_84_10 (et g0 rfl)) ?_
                            obtain ⟨b6, c6, hQ6⟩ := hT.vl.tab rfl
                            have hsl6 := hQ6.sl
                            refine l_step (y_load1 one_82 (et g0 rfl) (at1 (hT.vl.c1 hsl6 rfl))) ?_
                            refine l_step (y_len Hvaa.underlying82 (et g0 rfl)) ?_
                            refine l_step y_moveC ?_
                            refine l_nil ?_
                            refine hK70 _ _ ?_
                            refine fg5 0 5 8 61 62 (gS rfl (gS rfl (gS rfl (gS rfl (gS rfl (gS rfl (gS rfl (gS rfl g0)))))))) (gS rfl (gS rfl (gS rfl (gS rfl (gS rfl (gS rfl (gS rfl g0))))))) (gS rfl (gS rfl (gS rfl (gS rfl (gS rfl (gS rfl g0)))))) (gS rfl g0) g0 (fun g => ?_)
                            refine c_block (fun Q71 hQ71 => ?_)
                            refine fg5 0 5 8 61 62 (gS rfl (gS rfl (gS rfl (gS rfl g0)))) (gS rfl (gS rfl (gS rfl g0))) (gS rfl (gS rfl g0)) (gS rfl g0) g0 (fun g => ?_)
                            refine c_loop (fun k_ s_ W72 => ∃ (g : Nat → Value) (n : Nat), s_ = (upd (upd (upd (upd (upd g 0 (.pointer (some ⟨bc, 2435, none⟩))) 5 (.pointer (some ⟨b3, 0, none⟩))) 8 (.int .i32 (i9 : Nat))) 61 (.int .i64 (16384 : Nat))) 62 (.int .i64 (n : Nat))) ∧ 16384 - n = k_ ∧ (n ≤ 16384) ∧ (VT w H col bc cs W72 H col3 cs3 { V2 with tm := true, ttb := ttN n }) ∧ (Blk W72 b3 ((wL k).toArray))) (16384 - (0)) ?_ ?_
                            · exact ⟨g, 0, rfl, rfl, Nat.zero_le _, hT, k3⟩
                            · skip
                              intro k_ s_ W72 hI K72 hK72
                              clear k3
                              obtain ⟨g, n, rfl, rfl, hn, hT, k3⟩ := hI
                              have U : Ch (fun _ => True) w W72 := hT.go.ch.mono (fun _ _ _ => trivial)
                              refine c_seq (fun K73 hK73 => ?_)
                              exact (by
                                refine c_region ?_
                                refine l_step (y_lss (et g0 rfl) (et (gS rfl g0) rfl)) ?_
                                refine l_nil ?_
                                refine hK73 _ _ ?_
                                refine c_seq (fun K74 hK74 => ?_)
                                refine c_cond (et g0 rfl) (fun cB6 => ?_) (fun cB6 => ?_)
                                · skip
                                  
                                  have hnl : n < 16384 := by have := of_decide_eq_true cB6; omega
                                  refine c_skip ?_
                                  refine hK74 _ _ ?_
                                  refine fg5 0 5 8 61 62 (gS rfl (gS rfl (gS rfl (gS rfl (gS rfl g0))))) (gS rfl (gS rfl (gS rfl (gS rfl g0)))) (gS rfl (gS rfl (gS rfl g0))) (gS rfl (gS rfl g0)) (gS rfl g0) (fun g => ?_)
                                  refine c_seq (fun K76 hK76 => ?_)
                                  refine c_block (fun Q77 hQ77 => ?_)
                                  refine c_seq (fun K78 hK78 => ?_)
                                  exact (by
                                    refine c_region ?_
                                    refine l_step (y_moveV (et g0 rfl)) ?_
                                    refine l_step (y_assignV (et g0 rfl)) ?_
                                    refine l_nil ?_
                                    refine hK78 _ _ ?_
                                    refine fg6 0 5 8 61 62 12 (gS rfl (gS rfl (gS rfl (gS rfl (gS rfl (gS rfl g0)))))) (gS rfl (gS rfl (gS rfl (gS rfl (gS rfl g0))))) (gS rfl (gS rfl (gS rfl (gS rfl g0)))) (gS rfl (gS rfl (gS rfl g0))) (gS rfl (gS rfl g0)) g0 (fun g => ?_)
                                    refine c_region ?_
                                    refine l_step (y_moveV (et (gS rfl (gS rfl (gS rfl (gS rfl (gS rfl g0))))) rfl)) ?_
                                    refine l_step (y_nil (et g0 rfl)) ?_
                                    refine l_step (y_fld fld_84_10 (et g0 rfl)) ?_
                                    obtain ⟨b7, c7, hQ7⟩ := hT.vl.tab rfl
                                    have hz7 := hQ7.sz
                                    refine l_step (y_load1 one_82 (et g0 rfl) (at1 (hT.vl.c1 hQ7.sl rfl))) ?_
                                    refine l_step (y_moveV (et (gS rfl (gS rfl (gS rfl (gS rfl g0)))) rfl)) ?_
                                    refine l_step (y_idxS Hvaa.underlying82 sz_21 (et (gS rfl g0) rfl) (et g0 rfl) ?_ ?_) ?_
                                    omega
                                    omega
                                    refine l_effN (e_store sz_21 (et g0 rfl) (cellsV rfl rfl) rfl (by intro v hv; simp at hv; subst hv; rfl) hQ7.kT (by rw [hz7]; omega)) (fun v79 w79 h79 => ?_)
                                    obtain ⟨rfl, x79⟩ := h79
                                    have hv79 := hT.stTt hQ7 rfl hnl (by omega) x79
                                    have hc7 := hQ7.col
                                    replace k3 := k3.ch x79.ch (by intro hm; first | omega | (subst hm; omega))
                                    replace hT := hv79
                                    replace U := U.cc x79.ch (by intro b hb; exact .inl trivial)
                                    refine l_nil ?_
                                    refine hQ77 _ _ _ (in_normal ?_)
                                    refine hK76 _ _ ?_
                                    refine fg5 0 5 8 61 62 (gS rfl (gS rfl (gS rfl (gS rfl (gS rfl (gS rfl (gS rfl (gS rfl (gS rfl (gS rfl (gS rfl g0))))))))))) (gS rfl (gS rfl (gS rfl (gS rfl (gS rfl (gS rfl (gS rfl (gS rfl (gS rfl (gS rfl g0)))))))))) (gS rfl (gS rfl (gS rfl (gS rfl (gS rfl (gS rfl (gS rfl (gS rfl (gS rfl g0))))))))) (gS rfl (gS rfl (gS rfl (gS rfl (gS rfl (gS rfl (gS rfl (gS rfl g0)))))))) (gS rfl (gS rfl (gS rfl (gS rfl (gS rfl (gS rfl (gS rfl g0))))))) (fun g => ?_)
                                    refine c_region ?_
                                    refine l_step (y_add (et g0 rfl) rfl (addIN (y := 1) ?_)) ?_
                                    omega
                                    exact (by
                                      refine l_step (y_moveV (et g0 rfl)) ?_
                                      refine l_nil ?_
                                      refine fK5 0 5 8 61 62 (gS rfl (gS rfl (gS rfl (gS rfl (gS rfl (gS rfl g0)))))) (gS rfl (gS rfl (gS rfl (gS rfl (gS rfl g0))))) (gS rfl (gS rfl (gS rfl (gS rfl g0)))) (gS rfl (gS rfl (gS rfl g0))) g0 (fun g => ?_)
                                      exact hK72 (16384 - ((n + 1))) _ _ (by omega) ⟨g, (n + 1), rfl, rfl, by omega, by rw [← ttN_next]; exact hT, k3⟩))
                                · skip
                                  
                                  have hnl : n = 16384 := by have := of_decide_eq_false cB6; omega
                                  subst hnl
                                  refine c_exit ?_
                                  refine hQ71 _ _ _ (in_exit ?_)
                                  refine hK64 _ _ ?_
                                  refine fg3 0 5 8 (gS rfl (gS rfl (gS rfl (gS rfl (gS rfl g0))))) (gS rfl (gS rfl (gS rfl (gS rfl g0)))) (gS rfl (gS rfl (gS rfl g0))) (fun g => ?_)
                                  refine c_seq (fun K80 hK80 => ?_)
                                  exact (by
                                    refine c_region ?_
                                    refine l_step (y_moveV (et (gS rfl (gS rfl g0)) rfl)) ?_
                                    refine l_step (y_moveV (et (gS rfl g0) rfl)) ?_
                                    refine l_step (y_loadB agg_65 sz_65 (et (gS rfl (gS rfl (gS rfl g0))) rfl) (by first | (simp only [Value.cells, hV, aV, bV, wV, wL, List.size_toArray, length_bL, length_uL, length_be, size_spl, List.length_cons, List.length_nil, List.length_replicate, Nat.zero_add, Nat.reduceAdd, Nat.reduceLeDiff, Nat.le_refl]; done) | rfl) (at1B k3)) ?_
                                    refine l_eff (e_callV cal_382 (aC (et (gS rfl (gS rfl g0)) rfl) (aC (et (gS rfl g0) rfl) (aC (et g0 rfl) aN))) (v_findTemp1 hT.vl ho3 i9 k (by omega) hk htm)) (fun v81 w81 h81 => ?_)
                                    obtain ⟨j81, f81, rfl, hf4, u81⟩ := h81
                                    replace k3 := k3.up u81
                                    replace hT := hT.up u81
                                    replace U := U.tr u81
                                    obtain ⟨_, rfl, p4, rfl, hfr4⟩ := hf4.resolve_left (fun ⟨q4, ⟨y4, hy4, hya4, hyk4⟩, _⟩ => hn2 (List.mem_of_getElem? (tKs_get.2 ⟨y4, hy4, hya4, hyk4⟩)))
                                    have hp4 := hfr4.lt
                                    obtain ⟨lt9, lc9, hlT4⟩ := hT.vl.lenT
                                    have htl4 : ({ V2 with tm := true, ttb := ttN 16384 } : EV).temps.length = V.temps.length := by show V2.temps.length = _; rw [htt]
                                    refine l_step (y_moveV (et g0 rfl)) ?_
                                    refine l_step (y_ext (et g0 rfl) rfl) ?_
                                    refine l_step (y_ext (et (gS rfl g0) rfl) rfl) ?_
                                    refine l_step (y_assignV (et (gS rfl g0) rfl)) ?_
                                    refine l_step (y_assignV (et (gS rfl g0) rfl)) ?_
                                    refine l_nil ?_
                                    refine hK80 _ _ ?_
                                    refine fg4 0 5 8 14 (gS rfl (gS rfl (gS rfl (gS rfl (gS rfl (gS rfl (gS rfl (gS rfl (gS rfl (gS rfl (gS rfl g0))))))))))) (gS rfl (gS rfl (gS rfl (gS rfl (gS rfl (gS rfl (gS rfl (gS rfl (gS rfl (gS rfl g0)))))))))) (gS rfl (gS rfl (gS rfl (gS rfl (gS rfl (gS rfl (gS rfl (gS rfl (gS rfl g0))))))))) g0 (fun g => ?_)
                                    refine c_seq (fun K82 hK82 => ?_)
                                    refine c_seq (fun K83 hK83 => ?_)
                                    exact (by
                                      refine c_region ?_
                                      refine l_step (y_moveV (et g0 rfl)) ?_
                                      refine l_step (y_lss (et g0 rfl) rfl) ?_
                                      refine l_nil ?_
                                      refine hK83 _ _ ?_
                                      refine fg5 0 5 8 14 80 (gS rfl (gS rfl (gS rfl (gS rfl (gS rfl g0))))) (gS rfl (gS rfl (gS rfl (gS rfl g0)))) (gS rfl (gS rfl (gS rfl g0))) (gS rfl (gS rfl g0)) g0 (fun g => ?_)
                                      refine c_false (et g0 rfl) (by (exact decide_eq_false (by omega))) ?_
                                      refine c_skip ?_
                                      refine hK82 _ _ ?_
                                      refine fg4 0 5 8 14 (gS rfl (gS rfl (gS rfl (gS rfl g0)))) (gS rfl (gS rfl (gS rfl g0))) (gS rfl (gS rfl g0)) (gS rfl g0) (fun g => ?_)
                                      refine c_seq (fun K85 hK85 => ?_)
                                      exact (by
                                        refine c_region ?_
                                        refine l_step (y_moveV (et (gS rfl (gS rfl (gS rfl g0))) rfl)) ?_
                                        refine l_step (y_nil (et g0 rfl)) ?_
                                        refine l_step (y_fld fld_84_9 (et g0 rfl)) ?_
                                        refine l_step (y_load1 one_81 (et g0 rfl) (at1 (hT.vl.c1 hlT4 rfl))) ?_
                                        refine l_step (y_len Hvaa.underlying81 (et g0 rfl)) ?_
                                        refine l_step (y_conv Hvaa.underlying3 Hvaa.underlying21 (et g0 rfl) (wrap_i32 ?_ ?_)) ?_
                                        omega
                                        (have h9 := htl4; omega)
                                        refine l_step (y_assignV (et g0 rfl)) ?_
                                        refine l_nil ?_
                                        refine hK85 _ _ ?_
                                        refine fg5 0 5 8 14 10 (gS rfl (gS rfl (gS rfl (gS rfl (gS rfl (gS rfl (gS rfl (gS rfl (gS rfl (gS rfl g0)))))))))) (gS rfl (gS rfl (gS rfl (gS rfl (gS rfl (gS rfl (gS rfl (gS rfl (gS rfl g0))))))))) (gS rfl (gS rfl (gS rfl (gS rfl (gS rfl (gS rfl (gS rfl (gS rfl g0)))))))) (gS rfl (gS rfl (gS rfl (gS rfl (gS rfl (gS rfl (gS rfl g0))))))) g0 (fun g => ?_)
                                        refine c_seq (fun K86 hK86 => ?_)
                                        exact (by
                                          refine c_draw (Ch (fun k => col3 k = 6)) 12 [(0, true), (1, true), (2, true), (3, true), (4, true), (5, true), (6, true), (7, true), (8, false), (9, false), (10, true), (11, true), (12, false)] (by kernel_rfl) (fun w87 hu => ⟨Ch.refl _ _, ?_⟩)
                                          replace k3 := k3.up hu
                                          replace hT := hT.up hu
                                          replace U := U.tr hu
                                          have SU : (Ch (fun k => col3 k = 6)) w87 w87 := Ch.refl _ _
                                          refine p_step (by exact rfl) (y_moveV (et (gS rfl (gS rfl (gS rfl (gS rfl g0)))) rfl)) ?_
                                          refine p_step (by exact rfl) (y_moveV (et (gS rfl (gS rfl (gS rfl (gS rfl (gS rfl g0))))) rfl)) ?_
                                          refine p_step (by exact rfl) (y_nil (et g0 rfl)) ?_
                                          refine p_step (by exact rfl) (y_fld fld_84_9 (et g0 rfl)) ?_
                                          refine p_step (by exact rfl) (y_load1 one_81 (et g0 rfl) (atC (hT.vl.c1 hlT4 rfl) (by intro hm; omega))) ?_
                                          refine p_step (by exact rfl) (y_moveV (et (gS rfl (gS rfl (gS rfl (gS rfl (gS rfl (gS rfl (gS rfl g0))))))) rfl)) ?_
                                          refine p_step (by exact rfl) (y_loadB agg_65 sz_65 (et (gS rfl (gS rfl (gS rfl (gS rfl (gS rfl (gS rfl (gS rfl (gS rfl (gS rfl g0))))))))) rfl) (by first | (simp only [Value.cells, hV, aV, bV, wV, wL, List.size_toArray, length_bL, length_uL, length_be, size_spl, List.length_cons, List.length_nil, List.length_replicate, Nat.zero_add, Nat.reduceAdd, Nat.reduceLeDiff, Nat.le_refl]; done) | rfl) (atCB k3 (by intro hm; omega))) ?_
                                          refine p_step (by exact rfl) (y_bldET (et (gS rfl g0) rfl) (et g0 rfl)) ?_
                                          refine p_eff (by exact rfl) (e_slice1 (k := 8) Hvaa.underlying81 sz_430 zr_430 rfl (by decide) (et g0 rfl) (show (etC (blankT i9 k)).toArray.size = 9 by rw [List.size_toArray, etC_len _])) (fun v88 w88 h88 => ?_)
                                          obtain ⟨bb88, rfl, nn88⟩ := h88
                                          replace k3 := k3.up nn88.up
                                          replace hT := hT.up nn88.up
                                          replace U := U.tr nn88.up
                                          have kk88 : Blk w88 bb88 (etC (blankT i9 k)).toArray := nn88.blk
                                          refine ⟨.inr (SU.tr nn88.up), ?_⟩
                                          replace SU := SU.tr nn88.up
                                          have lt3 := k3.lt
                                          refine p_eff (by exact rfl) (e_appT (y := blankT i9 k) (news := etC (blankT i9 k)) Hvaa.underlying81 sz_430 zr_430 by_430 rfl (by decide) (et (gS rfl (gS rfl (gS rfl (gS rfl g0)))) rfl) hT hT.vl.tem hlT4 (by decide) (by decide) (et g0 rfl) kk88 (etC_len _) one_etC ⟨rfl, ⟨show i9 < 2560 by omega, hk, show 0 < W256 by decide⟩⟩ (by decide) (by have h9 := htl4; omega)) (fun v89 w89 h89 => ?_)
                                          obtain ⟨hm89, ch89⟩ := h89
                                          replace k3 := k3.ch ch89 (by intro hm; first | omega | (subst hm; omega))
                                          replace hT := hm89
                                          replace U := U.cc ch89 (by intro b hb; exact .inl trivial)
                                          replace SU := SU.cc ch89 (by intro b hb; first | exact .inl hb | exact hb.elim | omega | (have h9 := hOo.lim b hb.symm; first | exact .inl (by omega) | omega))
                                          obtain ⟨pa89, pc89, rfl⟩ := hm89.pd.len
                                          refine ⟨.inr SU, ?_⟩
                                          refine p_step (by exact rfl) (y_nil (et (gS rfl (gS rfl (gS rfl (gS rfl (gS rfl (gS rfl (gS rfl (gS rfl (gS rfl g0))))))))) rfl)) ?_
                                          exact (by
                                            refine p_step (by exact rfl) (y_fld fld_84_9 (et g0 rfl)) ?_
                                            refine p_effN (by exact rfl) (e_store sz_81 (et g0 rfl) (cellsV (et (gS rfl (gS rfl g0)) rfl) rfl) rfl (by intro v hv; simp at hv; subst hv; rfl) hT.m.kC (by rw [hT.m.size]; exact Nat.le_of_ble_eq_true rfl)) (fun v90 w90 h90 => ?_)
                                            obtain ⟨rfl, x90⟩ := h90
                                            obtain ⟨col4, hv90, hq90⟩ := hT.layT hml x90
                                            replace k3 := k3.ch x90.ch (by intro hm; first | omega | (subst hm; omega))
                                            replace hT := hv90
                                            replace U := U.cc x90.ch (by intro b hb; exact .inl trivial)
                                            replace nc3 := (hq90 b3 lt3).trans nc3
                                            replace hcC := hT.vl.colC
                                            refine ⟨.inl rfl, ?_⟩
                                            refine p_nil ?_
                                            refine hK86 _ _ ?_
                                            refine fg3 0 14 10 (gS rfl (gS rfl (gS rfl (gS rfl (gS rfl (gS rfl (gS rfl (gS rfl (gS rfl (gS rfl (gS rfl (gS rfl (gS rfl (gS rfl (gS rfl (gS rfl g0)))))))))))))))) (gS rfl (gS rfl (gS rfl (gS rfl (gS rfl (gS rfl (gS rfl (gS rfl (gS rfl (gS rfl (gS rfl (gS rfl (gS rfl g0))))))))))))) (gS rfl (gS rfl (gS rfl (gS rfl (gS rfl (gS rfl (gS rfl (gS rfl (gS rfl (gS rfl (gS rfl (gS rfl g0)))))))))))) (fun g => ?_)
                                            refine c_seq (fun K91 hK91 => ?_)
                                            exact (by
                                              refine c_region ?_
                                              refine l_step (y_moveV (et (gS rfl (gS rfl g0)) rfl)) ?_
                                              refine l_step (y_nil (et g0 rfl)) ?_
                                              refine l_step (y_fld fld_84_10 (et g0 rfl)) ?_
                                              obtain ⟨b8, c8, hQ8⟩ := hT.vl.tab htm
                                              have hz8 := hQ8.sz
                                              have hc8 := hQ8.col
                                              refine l_step (y_load1 one_82 (et g0 rfl) (at1 (hT.vl.c1 hQ8.sl rfl))) ?_
                                              refine l_step (y_moveV (et (gS rfl (gS rfl (gS rfl (gS rfl (gS rfl g0))))) rfl)) ?_
                                              refine l_step (y_moveV (et (gS rfl (gS rfl (gS rfl (gS rfl (gS rfl g0))))) rfl)) ?_
                                              refine l_step (y_idxS Hvaa.underlying82 sz_21 (et (gS rfl (gS rfl g0)) rfl) (et (gS rfl g0) rfl) ?_ ?_) ?_
                                              omega
                                              omega
                                              refine l_effN (e_store sz_21 (et g0 rfl) (cellsV (et (gS rfl g0) rfl) rfl) rfl (by intro v hv; simp at hv; subst hv; rfl) hQ8.kT (by rw [hz8]; omega)) (fun v92 w92 h92 => ?_)
                                              obtain ⟨rfl, x92⟩ := h92
                                              have hv92 := hT.stTt hQ8 htm hp4 (by omega) x92
                                              replace k3 := k3.ch x92.ch (by intro hm; first | omega | (subst hm; omega))
                                              replace hT := hv92
                                              replace U := U.cc x92.ch (by intro b hb; exact .inl trivial)
                                              refine l_nil ?_
                                              refine hK91 _ _ ?_
                                              refine fg1 10 (gS rfl (gS rfl (gS rfl (gS rfl (gS rfl (gS rfl (gS rfl g0))))))) (fun g => ?_)
                                              refine c_seq (fun K93 hK93 => ?_)
                                              exact (by
                                                refine c_region ?_
                                                refine l_step (y_moveV (et g0 rfl)) ?_
                                                refine l_step (y_assignV (et g0 rfl)) ?_
                                                refine l_step y_assignC ?_
                                                refine l_nil ?_
                                                refine hK93 _ _ ?_
                                                refine fg2 6 7 (gS rfl g0) g0 (fun g => ?_)
                                                refine c_ret ?_
                                                repeat with_reducible refine then_ret ?_
                                                refine ret2 rfl (res_tmp (et (gS rfl g0) rfl)) (res_tmp (et g0 rfl)) ?_
                                                have hL9 := VOk.layT ho3 hn2 (by show i9 < V2.accts.length; omega) (by show V2.temps.length < _; rw [htt]; omega) htm hfr4
                                                have hL7 : Lay ({ V2 with tm := true, ttb := ttN 16384 } : EV) { ({ V2 with tm := true, ttb := ttN 16384 } : EV) with temps := ({ V2 with tm := true, ttb := ttN 16384 } : EV).temps ++ [blankT i9 k], ttb := updT ({ V2 with tm := true, ttb := ttN 16384 } : EV).ttb p4 ({ V2 with tm := true, ttb := ttN 16384 } : EV).temps.length } 0 0 1 := ⟨hL9, Ext.layT _ i9 k _, rfl, rfl, by simp, by simp, by simp⟩
                                                have hL8 := hLy3.trans hL7
                                                have hnt1 : nt = 1 := hrt2.2
                                                subst hnt1
                                                exact ⟨V2.temps.length, blankT i9 k, _, _, _, rfl, hT, by simpa using hL8, hasA_of hx8 hxa8, by show (V2.temps ++ [_])[_]? = _; simp, (ai_eq hL9 hx8 hxa8).symm, rfl⟩))))))))))))))))))))
end Go.Proofs.YgvaawGreat
