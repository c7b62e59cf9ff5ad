import Derived.Test.YgvaawGreatW12
set_option maxRecDepth 100000
set_option maxHeartbeats 4000000
set_option linter.unusedSimpArgs false
set_option linter.unusedVariables false
namespace Go.Proofs.YgvaawGreat
open Go
section
variable {w0 w w' : World} {H0 H H' : Store} {col0 col : Nat → Nat} {bc : Nat} {cs : Array Value} {V : EV} {s : YSt} {sn : List Nat} {sv : List AW} {ms : List (List Nat)} {c : Nat}
theorem EX.gnM {M : Nat → Prop} (h : EX w H col bc cs V s sn sv ms c) (g : Go M w H w' H') (hM : ∀ b, M b → col b = 0) : EX w' H' col bc cs V s sn sv ms c := by
  obtain ⟨bm, cm, n, h1⟩ := h.mx
  exact ⟨h.vl.go g hM, h.ok, h.lx.mono g.le, ⟨bm, cm, n, h1.ch g.ch (fun h8 hm => by have := hM _ hm; omega)⟩, h.px⟩
theorem XT.gnM {M : Nat → Prop} (h : XT w0 H0 col0 w H col bc cs V s sn sv ms c) (g : Go M w H w' H') (hM : ∀ b, M b → col b = 0 ∧ w0.heap.size ≤ b) : XT w0 H0 col0 w' H' col bc cs V s sn sv ms c := ⟨h.ex.gnM g (fun b hb => (hM b hb).1), h.et.go.trans g (fun b hb => .inr (hM b hb).2), h.et.col⟩
end
theorem app_log (W : YWorld) (lg : YLog) : absY { W with logs := W.logs ++ [lg] } = { absY W with logs := (absY W).logs ++ [lg] } := rfl
theorem one_log {a : Nat} {x y : Value} (h1 : x.one1 = true) (h2 : y.one1 = true) : ∀ u ∈ bL (be 20 a) ++ [x, y], u.one1 = true := one_app (one_two h1 h2)
theorem m_opLog {w : World} {H : Store} {col : Nat → Nat} {bc : Nat} {cs : Array Value} {V : EV} {s : YSt} {sn : List Nat} {sv : List AW} {ms : List (List Nat)} {c : Nat} {low : List YF} {f : YF} (hE : EX w H col bc cs V s sn sv ms c) (hs : s.frames = low ++ [f]) (hp : s.phase = 1) {lo : List (List Nat)} {m : List Nat} (hms : ms = lo ++ [m]) {q : Nat} (hq : opcN f = q) (hqq : 160 ≤ q ∧ q ≤ 164) (hpc9 : f.pc < 512) (htk9 : 2 + (q - 160) ≤ f.stack.length) (hrd : argN f.stack 1 ≠ 0 → argN f.stack 0 + argN f.stack 1 ≤ m.length) {c' : Nat} (hap : s.applied ≤ 4) (hc : c' + 375 ≤ c) :
    Ret 319 [.pointer (some ⟨bc, 0, none⟩)] w (fun v w' => v = .tuple #[] ∧ ∃ H' col' cs' V', XT w H col w' H' col' bc cs' V' { s with now := { s.now with logs := s.now.logs ++ [⟨f.self, (List.range (q - 160)).map (fun i => argN f.stack (2 + i)), rdN m (argN f.stack 0) (argN f.stack 1)⟩] }, frames := low ++ [setF f (2 + (q - 160)) false 0 1] } sn sv ms c') := by
  obtain ⟨n9, hn9, hR⟩ := hE.topF hs
  have hB := hE.fbT hs
  have h6 := hE.six hs
  have htop := hE.cTop hs
  have hphs := hE.cPh hp
  have hbp := hB.pc
  have hbs := hB.stk
  have hbg := hB.gas
  have hbc9 := hB.code
  have hnw := hE.vl.new
  have hfz := hE.vl.fz
  have hcC := hE.vl.colC
  have hbc0 := hE.vl.kC.lt
  have hX := XT.refl hE
  have hro := hE.room hap
  obtain ⟨ca9, cc9, ia9, ic9, hr5, hcode, hinp⟩ := hR.r5
  subst hq
  have hrl : (rdN m (argN f.stack 0) (argN f.stack 1)).length ≤ 717280 := rd_len hrd (hE.memLe hms)
  obtain ⟨T, hT⟩ : ∃ T, T = (List.range (opcN f - 160)).map (fun i => argN f.stack (2 + i)) := ⟨_, rfl⟩
  have hTl : T.length = opcN f - 160 := by rw [hT]; simp
  have hTi : ∀ i (h : i < T.length), T[i] = argN f.stack (2 + i) := fun i h => by subst hT; simp
  refine enter (n := 69) Hvaa.func319 rfl rfl (Nat.le_of_ble_eq_true rfl) ?_
  have U : Ch (fun _ => True) w w := Ch.refl _ w
  refine c_seq (fun K1 hK1 => ?_)
  exact (by
    refine c_region ?_
    refine l_step (y_moveV (et g0 rfl)) ?_
    refine l_eff (e_callV cal_183 (aC (et g0 rfl) aN) (m_running hX.ex hs hp)) (fun v2 w2 h2 => ?_)
    obtain ⟨rfl, u2⟩ := h2
    replace hX := hX.up u2
    replace U := U.tr u2
    refine l_step (y_assignV (et g0 rfl)) ?_
    refine l_nil ?_
    refine hK1 _ _ ?_
    refine fg2 0 2 (gS rfl (gS rfl (gS rfl g0))) g0 (fun g => ?_)
    refine c_seq (fun K3 hK3 => ?_)
    refine c_seq (fun K4 hK4 => ?_)
    exact (by
      refine c_region ?_
      refine l_step (y_moveV (et g0 rfl)) ?_
      refine l_step (y_eqlNil Hvaa.underlying276 (et g0 rfl) rfl) ?_
      refine l_nil ?_
      refine hK4 _ _ ?_
      refine fg3 0 2 11 (gS rfl (gS rfl (gS rfl g0))) (gS rfl (gS rfl g0)) g0 (fun g => ?_)
      refine c_false (et g0 rfl) rfl ?_
      refine c_skip ?_
      refine hK3 _ _ ?_
      refine fg2 0 2 (gS rfl (gS rfl g0)) (gS rfl g0) (fun g => ?_)
      refine c_seq (fun K6 hK6 => ?_)
      exact (by
        refine c_region ?_
        refine l_step (y_moveV (et (gS rfl g0) rfl)) ?_
        refine l_eff (e_callV cal_108 (aC (et g0 rfl) aN) (m_opcode hX.ex hs hp)) (fun v7 w7 h7 => ?_)
        obtain ⟨rfl, u7⟩ := h7
        replace hX := hX.up u7
        replace U := U.tr u7
        refine l_step (y_sub (et g0 rfl) rfl (wrapU_subN (b := 160) uk8 ?_ ?_)) ?_
        omega
        omega
        refine l_step (y_conv Hvaa.underlying5 Hvaa.underlying3 (et g0 rfl) (wrap_i64 ?_ ?_)) ?_
        omega
        omega
        refine l_step (y_assignV (et g0 rfl)) ?_
        refine l_nil ?_
        refine hK6 _ _ ?_
        refine fg3 0 2 3 (gS rfl (gS rfl (gS rfl (gS rfl (gS rfl (gS rfl g0)))))) (gS rfl (gS rfl (gS rfl (gS rfl (gS rfl g0))))) g0 (fun g => ?_)
        refine c_seq (fun K8 hK8 => ?_)
        exact (by
          refine c_region ?_
          refine l_step (y_moveV (et (gS rfl (gS rfl g0)) rfl)) ?_
          refine l_step (y_moveV (et (gS rfl (gS rfl (gS rfl g0))) rfl)) ?_
          refine l_step (y_moveV (et (gS rfl (gS rfl (gS rfl g0))) rfl)) ?_
          refine l_eff (e_callV cal_264 (aC (et (gS rfl g0) rfl) (aC (et g0 rfl) (aC (v := .int .i64 ((0 : Nat) : Int)) rfl aN))) (m_arg hX.ex hs hp (by first | exact hpf | rfl) _ (by decide))) (fun v9 w9 h9 => ?_)
          obtain ⟨rfl, u9⟩ := h9
          replace hX := hX.up u9
          replace U := U.tr u9
          refine l_step (y_moveV (et (gS rfl (gS rfl (gS rfl (gS rfl (gS rfl (gS rfl g0)))))) rfl)) ?_
          refine l_step (y_moveV (et (gS rfl (gS rfl (gS rfl (gS rfl (gS rfl (gS rfl g0)))))) rfl)) ?_
          refine l_eff (e_callV cal_264 (aC (et (gS rfl g0) rfl) (aC (et g0 rfl) (aC (v := .int .i64 ((1 : Nat) : Int)) rfl aN))) (m_arg hX.ex hs hp (by first | exact hpf | rfl) _ (by decide))) (fun v10 w10 h10 => ?_)
          obtain ⟨rfl, u10⟩ := h10
          replace hX := hX.up u10
          replace U := U.tr u10
          refine l_eff (e_callV cal_292 (aC (et (gS rfl (gS rfl (gS rfl (gS rfl (gS rfl (gS rfl g0)))))) rfl) (aC (et (gS rfl (gS rfl (gS rfl g0))) rfl) (aC (et g0 rfl) aN))) (m_read hX.ex hs hp hms _ _ (argN_lt hB _) (argN_lt hB _) hrd)) (fun v11 w11 h11 => ?_)
          obtain ⟨H9, vb9, rfl, g9, n9⟩ := h11
          replace hX := hX.gn g9
          replace U := U.cc g9.ch (by intro b hb; exact .inl trivial)
          obtain ⟨ca9, cc9, rfl⟩ := n9.sl
          refine l_step (y_moveV (et g0 rfl)) ?_
          refine l_step (y_ext (et g0 rfl) rfl) ?_
          refine l_step (y_ext (et (gS rfl g0) rfl) rfl) ?_
          refine l_step (y_assignV (et (gS rfl g0) rfl)) ?_
          refine l_step (y_assignV (et (gS rfl g0) rfl)) ?_
          refine l_nil ?_
          refine hK8 _ _ ?_
          refine fg5 0 2 3 4 5 (gS rfl (gS rfl (gS rfl (gS rfl (gS rfl (gS rfl (gS rfl (gS rfl (gS rfl (gS rfl (gS rfl (gS rfl (gS rfl (gS rfl (gS rfl g0))))))))))))))) (gS rfl (gS rfl (gS rfl (gS rfl (gS rfl (gS rfl (gS rfl (gS rfl (gS rfl (gS rfl (gS rfl (gS rfl (gS rfl (gS rfl g0)))))))))))))) (gS rfl (gS rfl (gS rfl (gS rfl (gS rfl (gS rfl (gS rfl (gS rfl (gS rfl (gS rfl (gS rfl (gS rfl (gS rfl g0))))))))))))) (gS rfl g0) g0 (fun g => ?_)
          refine c_seq (fun K12 hK12 => ?_)
          exact (by
            refine c_region ?_
            refine l_step (y_moveV (et (gS rfl (gS rfl (gS rfl g0))) rfl)) ?_
            refine l_step (y_nil (et g0 rfl)) ?_
            refine l_step (y_fld fld_71_9 (et g0 rfl)) ?_
            refine l_step (y_loadR agg_25 sz_25 (et g0 rfl) (by rw [length_bL, length_be]) (at1R (hX.ex.vl.kC.rowO hR.r2 (by omega)))) ?_
            refine l_step (y_moveV (et (gS rfl (gS rfl (gS rfl (gS rfl (gS rfl g0))))) rfl)) ?_
            have hb13 : ∀ w, (Instr.build 131 ([(0, (Value.agg (bL (be 20 f.self)).toArray)), (2, (.slice ca9 (rdN m (argN f.stack 0) (argN f.stack 1)).length cc9))] : List (Nat × Value)).toArray).run Hvaa.prog w = .ok (.agg ([(bL (be 20 f.self)), [.slice none 0 0], ([.slice ca9 (rdN m (argN f.stack 0) (argN f.stack 1)).length cc9])] : List (List Value)).flatten.toArray) w := bld_run zr_131 plc_131 (fill_flat (off := 0) (k := 20) (f := (List.replicate 20 (.int .u8 0))) (c := bL (be 20 f.self)) (v := (Value.agg (bL (be 20 f.self)).toArray)) rfl rfl (by first | (simp [length_bL, length_be, length_uL]; done) | rfl) (by first | rfl | (simp [length_bL, length_be, length_uL]; done)) rfl (by first | (simp [length_bL, length_be, length_uL]; done) | rfl) (fill_flat (off := 21) (k := 1) (f := [.slice none 0 0]) (c := [.slice ca9 (rdN m (argN f.stack 0) (argN f.stack 1)).length cc9]) (v := (.slice ca9 (rdN m (argN f.stack 0) (argN f.stack 1)).length cc9)) rfl rfl (by first | (simp [length_bL, length_be, length_uL]; done) | rfl) (by first | (simp [length_bL, length_be, length_uL]; done) | rfl) rfl (by first | (simp [length_bL, length_be, length_uL]; done) | rfl) (fill_nil _ _)))
            refine l_step ((y_bld (bC (et (gS rfl g0) rfl) (bC (et g0 rfl) bN)) hb13).to (congrArg (fun l : List Value => Value.agg l.toArray) (show _ = bL (be 20 f.self) ++ [.slice none 0 0, (.slice ca9 (rdN m (argN f.stack 0) (argN f.stack 1)).length cc9)] by simp))) ?_
            have hfz8 := hX.ex.vl.fz
            refine l_eff (e_alloc zr_131) (fun v14 w14 h14 => ?_)
            obtain ⟨b14, rfl, n14⟩ := h14
            have f14 : w.heap.size ≤ b14 := Nat.le_trans U.size n14.fresh
            replace hX := hX.up n14.up
            replace U := U.tr n14.up
            have k14 := n14.blk
            have hH1 : ¬ Store.has _ b14 := fun hh => by have := hfz8.lt hh; have := n14.fresh; omega
            have nc14 : col b14 = 0 := hnw _ f14
            refine l_effN (e_store sz_131 (et g0 rfl) (cellsV (et (gS rfl g0) rfl) rfl) len22 (by exact one_app (one_two rfl rfl)) k14 (by exact Nat.le_of_ble_eq_true rfl)) (fun v15 w15 h15 => ?_)
            obtain ⟨rfl, x15⟩ := h15
            replace hX := hX.ch x15.ch (by first | omega | (intro b hb; first | (subst hb; exact ⟨hnw _ (by omega), fun hh => by have := hHb0 _ hh; omega, by omega⟩) | (have h9 := hOo.lim b hb.symm; exact ⟨hnw _ (by omega), fun hh => by have := hHb0 _ hh; omega, by omega⟩) | (rcases hb with hb | hb; (subst hb; exact ⟨hnw _ (by omega), hH6, by omega⟩); exact ⟨hnw _ (by omega), fun hh => by have := hHb0 _ hh; omega, by omega⟩) | (subst hb; exact ⟨hnw _ (by omega), by assumption, by omega⟩)))
            replace k14 := x15.blk.full (by rw [len22]; rfl)
            replace U := U.st x15 (.inr f14)
            refine l_nil ?_
            refine hK12 _ _ ?_
            refine fg5 0 2 3 5 6 (gS rfl (gS rfl (gS rfl (gS rfl (gS rfl (gS rfl (gS rfl (gS rfl (gS rfl (gS rfl (gS rfl g0))))))))))) (gS rfl (gS rfl (gS rfl (gS rfl (gS rfl (gS rfl (gS rfl (gS rfl (gS rfl (gS rfl g0)))))))))) (gS rfl (gS rfl (gS rfl (gS rfl (gS rfl (gS rfl (gS rfl (gS rfl (gS rfl g0))))))))) (gS rfl (gS rfl (gS rfl (gS rfl (gS rfl (gS rfl (gS rfl g0))))))) g0 (fun g => ?_)
            refine c_seq (fun K16 hK16 => ?_)
            refine c_seq (fun K17 hK17 => ?_)
            exact (by
              refine c_region ?_
              refine l_step y_assignC ?_
              refine l_nil ?_
              refine hK17 _ _ ?_
              refine c_block (fun Q18 hQ18 => ?_)
              refine fg6 0 2 3 5 6 7 (gS rfl (gS rfl (gS rfl (gS rfl (gS rfl g0))))) (gS rfl (gS rfl (gS rfl (gS rfl g0)))) (gS rfl (gS rfl (gS rfl g0))) (gS rfl (gS rfl g0)) (gS rfl g0) g0 (fun g => ?_)
              obtain ⟨base, hbs⟩ : ∃ base, base = w15.heap.size := ⟨_, rfl⟩
              have hbw : w.heap.size ≤ base := by rw [hbs]; exact U.size
              have hb6 : b14 < base := by rw [hbs]; exact k14.lt
              have hHb0 : ∀ q, Store.has H9 q → q < base := fun q hq => by rw [hbs]; exact hX.ex.vl.fz.lt hq
              have hX0 := hX
              have hH6 : ¬ Store.has H9 b14 := hH1
              refine c_loop (fun k_ s_ W19 => ∃ (g : Nat → Value) (vt : Value) (i : Nat), s_ = (upd (upd (upd (upd (upd (upd g 0 (.pointer (some ⟨bc, 0, none⟩))) 2 (.pointer (some ⟨bc, 1803 + 65 * low.length, none⟩))) 3 (.int .i64 (opcN f - 160 : Nat))) 5 (.bool true)) 6 (.pointer (some ⟨b14, 0, none⟩))) 7 (.int .i64 (i : Nat))) ∧ opcN f - 160 - i = k_ ∧ (i ≤ opcN f - 160) ∧ (GL P_word H9 base 28 32 W19.heap.size W19 vt (T.take i)) ∧ Blk W19 b14 ((bL (be 20 f.self) ++ [vt, (.slice ca9 (rdN m (argN f.stack 0) (argN f.stack 1)).length cc9)]).toArray) ∧ Ch (fun k => k = b14 ∨ base ≤ k) w15 W19) (opcN f - 160 - (0)) ?_ ?_
              · exact ⟨g, (.slice none 0 0), 0, rfl, rfl, Nat.zero_le _, by rw [List.take_zero]; exact GL.nil, k14, Ch.refl _ _⟩
              · skip
                intro k_ s_ W19 hI K19 hK19
                obtain ⟨g, vt, i, rfl, rfl, hi, hO, nk14, V19⟩ := hI
                replace hX := hX.ch V19 (by intro b hb; first | (subst hb; exact ⟨hnw _ (by omega), fun hh => by have := hHb0 _ hh; omega, by omega⟩) | (have h9 := hOo.lim b hb.symm; exact ⟨hnw _ (by omega), fun hh => by have := hHb0 _ hh; omega, by omega⟩) | (rcases hb with hb | hb; (subst hb; exact ⟨hnw _ (by omega), hH6, by omega⟩); exact ⟨hnw _ (by omega), fun hh => by have := hHb0 _ hh; omega, by omega⟩) | (subst hb; exact ⟨hnw _ (by omega), by assumption, by omega⟩))
                replace k14 := nk14
                replace U := U.cc V19 (by intro b hb; first | exact hb.elim | omega | (simp at hb ⊢; omega))
                have hbW : base ≤ W19.heap.size := by rw [hbs]; exact V19.size
                have hV9 := V19
                refine c_seq (fun K20 hK20 => ?_)
                refine c_seq (fun K21 hK21 => ?_)
                exact (by
                  refine c_region ?_
                  refine l_step (y_moveV (et g0 rfl)) ?_
                  refine l_step (y_moveV (et (gS rfl (gS rfl (gS rfl (gS rfl g0)))) rfl)) ?_
                  refine l_step (y_lss (et (gS rfl g0) rfl) (et g0 rfl)) ?_
                  refine l_nil ?_
                  refine hK21 _ _ ?_
                  refine fg7 0 2 3 5 6 7 35 (gS rfl (gS rfl (gS rfl (gS rfl (gS rfl (gS rfl (gS rfl (gS rfl g0)))))))) (gS rfl (gS rfl (gS rfl (gS rfl (gS rfl (gS rfl (gS rfl g0))))))) (gS rfl (gS rfl (gS rfl (gS rfl (gS rfl (gS rfl g0)))))) (gS rfl (gS rfl (gS rfl (gS rfl (gS rfl g0))))) (gS rfl (gS rfl (gS rfl (gS rfl g0)))) (gS rfl (gS rfl (gS rfl g0))) g0 (fun g => ?_)
                  refine c_cond (et g0 rfl) (fun cB2 => ?_) (fun cB2 => ?_)
                  · skip
                    
                    have hil0 : i < opcN f - 160 := by have := of_decide_eq_true cB2; omega
                    have hil : i < T.length := by omega
                    refine c_skip ?_
                    refine hK20 _ _ ?_
                    refine fg6 0 2 3 5 6 7 (gS rfl (gS rfl (gS rfl (gS rfl (gS rfl (gS rfl g0)))))) (gS rfl (gS rfl (gS rfl (gS rfl (gS rfl g0))))) (gS rfl (gS rfl (gS rfl (gS rfl g0)))) (gS rfl (gS rfl (gS rfl g0))) (gS rfl (gS rfl g0)) (gS rfl g0) (fun g => ?_)
                    refine c_seq (fun K23 hK23 => ?_)
                    refine c_block (fun Q24 hQ24 => ?_)
                    exact (by
                      refine c_draw (Ch (fun k => base ≤ k)) 11 [(0, true), (1, true), (2, true), (3, true), (4, true), (5, true), (6, false), (7, false), (8, false), (9, false), (10, true), (11, false)] (by kernel_rfl) (fun w25 hu => ⟨Ch.refl _ _, ?_⟩)
                      replace k14 := k14.up hu
                      replace hX := hX.up hu
                      replace hO := hO.up hu
                      replace U := U.tr hu
                      replace V19 := V19.tr hu
                      have SU : (Ch (fun k => base ≤ k)) w25 w25 := Ch.refl _ _
                      refine p_step (by exact rfl) (y_fld fld_131_1 (et (gS rfl g0) rfl)) ?_
                      refine p_step (by exact rfl) (y_load1 one_29 (et g0 rfl) (atC (k14.cell ((app20 (i := 0) rfl).trans rfl)) (by omega))) ?_
                      refine p_step (by exact rfl) (y_moveV (et (gS rfl (gS rfl (gS rfl (gS rfl (gS rfl (gS rfl (gS rfl g0))))))) rfl)) ?_
                      refine p_step (by exact rfl) (y_moveV (et (gS rfl (gS rfl (gS rfl (gS rfl (gS rfl (gS rfl (gS rfl g0))))))) rfl)) ?_
                      refine p_step (by exact rfl) (y_moveV (et (gS rfl (gS rfl (gS rfl (gS rfl g0)))) rfl)) ?_
                      refine p_step (by exact rfl) (y_add rfl (et g0 rfl) (addIN (x := 2) ?_)) ?_
                      omega
                      refine p_eff (by exact rfl) (e_callV cal_264 (aC (et (gS rfl (gS rfl (gS rfl g0))) rfl) (aC (et (gS rfl (gS rfl g0)) rfl) (aC (et g0 rfl) aN))) (m_arg hX.ex hs hp (by first | exact hpf | rfl) _ (by omega))) (fun v26 w26 h26 => ?_)
                      obtain ⟨rfl, u26⟩ := h26
                      replace k14 := k14.up u26
                      replace hX := hX.up u26
                      replace hO := hO.up u26
                      replace U := U.tr u26
                      replace V19 := V19.tr u26
                      refine ⟨.inr (SU.tr u26), ?_⟩
                      replace SU := SU.tr u26
                      refine p_eff (by exact rfl) (e_callV cal_76 (aC (et g0 rfl) aN) (wBE32_spec _ _)) (fun v27 w27 h27 => ?_)
                      obtain ⟨rfl, u27⟩ := h27
                      replace k14 := k14.up u27
                      replace hX := hX.up u27
                      replace hO := hO.up u27
                      replace U := U.tr u27
                      replace V19 := V19.tr u27
                      refine ⟨.inr (SU.tr u27), ?_⟩
                      replace SU := SU.tr u27
                      exact (by
                        refine p_eff (by exact rfl) (e_slice1 (k := 31) Hvaa.underlying29 sz_28 zr_28 rfl (by decide) (et g0 rfl) (by rw [show (hV (argN f.stack (2 + i))).cells = (bL (be 32 (argN f.stack (2 + i)))).toArray from rfl, List.size_toArray, length_bL, length_be])) (fun v28 w28 h28 => ?_)
                        obtain ⟨b28, rfl, n28⟩ := h28
                        replace k14 := k14.up n28.up
                        replace hX := hX.up n28.up
                        replace hO := hO.up n28.up
                        replace U := U.tr n28.up
                        replace V19 := V19.tr n28.up
                        have kq28 : Blk w28 b28 (bL (be 32 (argN f.stack (2 + i)))).toArray := n28.blk
                        refine ⟨.inr (SU.tr n28.up), ?_⟩
                        replace SU := SU.tr n28.up
                        have hbz : base ≤ w28.heap.size := by rw [hbs]; exact V19.size
                        refine p_eff (by exact rfl) (e_appL Hvaa.underlying29 sz_28 zr_28 by_28 rfl (by decide) (et (gS rfl (gS rfl (gS rfl (gS rfl (gS rfl (gS rfl (gS rfl g0))))))) rfl) hO (et g0 rfl) (by rw [length_bL, length_be]) kq28 (one_bL _) (u := T[i]) ⟨by rw [hTi i hil], by rw [hTi i hil]; exact argN_lt hB _⟩ (by decide) (by rw [List.length_take]; omega) hbz) (fun v29 w29 h29 => ?_)
                        obtain ⟨hO29, c29, hown29⟩ := h29
                        have hOo := hO
                        replace k14 := k14.ch c29 (by first | omega | exact hOo.ne (by omega))
                        replace hX := hX.ch c29 (by intro b hb; first | (subst hb; exact ⟨hnw _ (by omega), fun hh => by have := hHb0 _ hh; omega, by omega⟩) | (have h9 := hOo.lim b hb.symm; exact ⟨hnw _ (by omega), fun hh => by have := hHb0 _ hh; omega, by omega⟩) | (rcases hb with hb | hb; (subst hb; exact ⟨hnw _ (by omega), hH6, by omega⟩); exact ⟨hnw _ (by omega), fun hh => by have := hHb0 _ hh; omega, by omega⟩) | (subst hb; exact ⟨hnw _ (by omega), by assumption, by omega⟩))
                        replace hO := hO29
                        replace V19 := V19.cc c29 (by intro b hb; first | omega | (simp at hb ⊢; omega) | (have := hOo.lim b hb.symm; omega))
                        replace U := U.cc c29 (by intro b hb; have h9 := hOo.lim b hb.symm; first | exact .inr (by omega) | exact .inl (.inr (by omega)) | omega | trivial)
                        replace SU := SU.cc c29 (by intro b hb; first | exact .inl hb | exact hb.elim | omega | (have h9 := hOo.lim b hb.symm; first | exact .inl (by omega) | omega))
                        refine ⟨.inr SU, ?_⟩
                        refine p_step (by exact rfl) (y_fld fld_131_1 (et (gS rfl (gS rfl (gS rfl (gS rfl (gS rfl (gS rfl (gS rfl (gS rfl (gS rfl (gS rfl (gS rfl g0))))))))))) rfl)) ?_
                        refine p_effN (by exact rfl) (e_store sz_29 (et g0 rfl) (cellsV (et (gS rfl g0) rfl) (cells_one hO.one1)) rfl (by exact one_sgl hO.one1) k14 (by rw [List.size_toArray, len22]; decide)) (fun v30 w30 h30 => ?_)
                        obtain ⟨rfl, x30⟩ := h30
                        replace hX := hX.ch x30.ch (by first | omega | (intro b hb; first | (subst hb; exact ⟨hnw _ (by omega), fun hh => by have := hHb0 _ hh; omega, by omega⟩) | (have h9 := hOo.lim b hb.symm; exact ⟨hnw _ (by omega), fun hh => by have := hHb0 _ hh; omega, by omega⟩) | (rcases hb with hb | hb; (subst hb; exact ⟨hnw _ (by omega), hH6, by omega⟩); exact ⟨hnw _ (by omega), fun hh => by have := hHb0 _ hh; omega, by omega⟩) | (subst hb; exact ⟨hnw _ (by omega), by assumption, by omega⟩)))
                        replace k14 := x30.blk
                        replace hO := hO.wr x30 (by first | omega | (right; omega))
                        replace U := U.st x30 (.inr f14)
                        replace V19 := V19.st x30 (by omega)
                        refine ⟨.inl rfl, ?_⟩
                        rw [set20b] at k14
                        refine p_nil ?_
                        refine hQ24 _ _ _ (in_normal ?_)
                        refine hK23 _ _ ?_
                        refine fg6 0 2 3 5 6 7 (gS rfl (gS rfl (gS rfl (gS rfl (gS rfl (gS rfl (gS rfl (gS rfl (gS rfl (gS rfl (gS rfl (gS rfl (gS rfl (gS rfl (gS rfl (gS rfl g0)))))))))))))))) (gS rfl (gS rfl (gS rfl (gS rfl (gS rfl (gS rfl (gS rfl (gS rfl (gS rfl (gS rfl (gS rfl (gS rfl (gS rfl (gS rfl (gS rfl g0))))))))))))))) (gS rfl (gS rfl (gS rfl (gS rfl (gS rfl (gS rfl (gS rfl (gS rfl (gS rfl (gS rfl (gS rfl (gS rfl (gS rfl (gS rfl g0)))))))))))))) (gS rfl (gS rfl (gS rfl (gS rfl (gS rfl (gS rfl (gS rfl (gS rfl (gS rfl (gS rfl (gS rfl (gS rfl (gS rfl g0))))))))))))) (gS rfl (gS rfl (gS rfl (gS rfl (gS rfl (gS rfl (gS rfl (gS rfl (gS rfl (gS rfl (gS rfl (gS rfl g0)))))))))))) (gS rfl (gS rfl (gS rfl (gS rfl (gS rfl (gS rfl (gS rfl (gS rfl (gS rfl (gS rfl (gS rfl g0))))))))))) (fun g => ?_)
                        refine c_region ?_
                        exact (by
                          refine l_step (y_moveV (et g0 rfl)) ?_
                          refine l_step (y_add (et g0 rfl) rfl (addIN (y := 1) ?_)) ?_
                          omega
                          refine l_step (y_assignV (et g0 rfl)) ?_
                          refine l_nil ?_
                          refine fK6 0 2 3 5 6 7 (gS rfl (gS rfl (gS rfl (gS rfl (gS rfl (gS rfl (gS rfl (gS rfl g0)))))))) (gS rfl (gS rfl (gS rfl (gS rfl (gS rfl (gS rfl (gS rfl g0))))))) (gS rfl (gS rfl (gS rfl (gS rfl (gS rfl (gS rfl g0)))))) (gS rfl (gS rfl (gS rfl (gS rfl (gS rfl g0))))) (gS rfl (gS rfl (gS rfl (gS rfl g0)))) g0 (fun g => ?_)
                          exact hK19 (opcN f - 160 - ((i + 1))) _ _ (by omega) ⟨g, _, (i + 1), rfl, rfl, by omega, by rw [← List.take_append_getElem hil]; exact hO.mono x30.ch.size, k14, V19⟩)))
                  · skip
                    
                    have hil : ¬ i < opcN f - 160 := by have := of_decide_eq_false cB2; omega
                    rw [List.take_of_length_le (show T.length ≤ i by omega)] at hO
                    obtain ⟨Hz, gz, lz, lvz, _⟩ := hO.keep' mono_word ⟨hV9, hX.ex.vl.fz, Le.refl _, fun _ h => .inl h⟩ (Le.refl _) (by omega)
                    replace hX := hX0.gnM gz (fun b hb => by rcases hb with hb | hb <;> exact ⟨hnw _ (by omega), by omega⟩)
                    obtain ⟨ta9, tc9, hvt⟩ := hO.sl
                    subst hvt
                    refine c_exit ?_
                    refine hQ18 _ _ _ (in_exit ?_)
                    refine hK16 _ _ ?_
                    refine fg5 0 2 3 5 6 (gS rfl (gS rfl (gS rfl (gS rfl (gS rfl (gS rfl g0)))))) (gS rfl (gS rfl (gS rfl (gS rfl (gS rfl g0))))) (gS rfl (gS rfl (gS rfl (gS rfl g0)))) (gS rfl (gS rfl (gS rfl g0))) (gS rfl (gS rfl g0)) (fun g => ?_)
                    refine c_seq (fun K31 hK31 => ?_)
                    refine c_seq (fun K32 hK32 => ?_)
                    exact (by
                      refine c_draw (SX _ bc) 11 [(0, true), (1, true), (2, true), (3, true), (4, true), (5, true), (6, true), (7, true), (8, false), (9, true), (10, true)] (by kernel_rfl) (fun w33 hu => ⟨SX.refl (hX.up hu), ?_⟩)
                      replace k14 := k14.up hu
                      replace hX := hX.up hu
                      replace U := U.tr hu
                      have SU := SX.refl hX
                      have cq := cq_refl hX
                      have hX_s := hX
                      have k14_s := k14
                      refine p_step (by exact rfl) (y_moveV (et (gS rfl g0) rfl)) ?_
                      refine p_step (by exact rfl) (y_not (et g0 rfl)) ?_
                      refine p_step (by exact rfl) (y_moveV (et g0 rfl)) ?_
                      refine gsplitP (i := 51) g0 (fun q34 => ?_) (fun q34 => ?_)
                      · skip
                        cases q34
                      · skip
                        refine p_gstep (j := 2) (t := 51) (by exact rfl) (by exact rfl) (by exact rfl) (et g0 rfl) rfl (y_moveV (et (gS rfl (gS rfl (gS rfl (gS rfl (gS rfl (gS rfl (gS rfl (gS rfl g0)))))))) rfl)) ?_
                        refine p_gstep (j := 2) (t := 51) (by exact rfl) (by exact rfl) (by exact rfl) (et (gS rfl g0) rfl) rfl (y_nil (et g0 rfl)) ?_
                        refine p_gstep (j := 2) (t := 51) (by exact rfl) (by exact rfl) (by exact rfl) (et (gS rfl (gS rfl g0)) rfl) rfl (y_fld fld_75_0 (et g0 rfl)) ?_
                        refine p_gstep (j := 2) (t := 51) (by exact rfl) (by exact rfl) (by exact rfl) (et (gS rfl (gS rfl (gS rfl g0))) rfl) rfl (y_load1 one_59 (et g0 rfl) (atXP)) ?_
                        refine p_gstep (j := 2) (t := 51) (by exact rfl) (by exact rfl) (by exact rfl) (et (gS rfl (gS rfl (gS rfl (gS rfl g0)))) rfl) rfl (y_loadB agg_131 sz_131 (et (gS rfl (gS rfl (gS rfl (gS rfl (gS rfl (gS rfl (gS rfl (gS rfl g0)))))))) rfl) (by rw [List.size_toArray, len22]) (atXB k14_s (by omega))) ?_
                        refine p_geff (j := 2) (t := 51) (by exact rfl) (by exact rfl) (by exact rfl) (et (gS rfl (gS rfl (gS rfl (gS rfl (gS rfl g0))))) rfl) rfl (e_callV cal_384 (aC (et (gS rfl g0) rfl) (aC (et g0 rfl) aN)) (v_putLog (lg := ⟨f.self, T, rdN m (argN f.stack 0) (argN f.stack 1)⟩) hX.ex.vl hX.ex.ok hB.self lvz (n9.mono lz) (by show T.length ≤ 4; omega) hrl hro.l hro.j)) (fun v35 w35 h35 => ?_)
                        obtain ⟨rfl, H35, cl35, cs35, V35, t35, ok35, js35⟩ := h35
                        have nc14 := (t35.col b14 k14.lt).trans nc14
                        have kp35 := hX.ex.vl.kC
                        replace k14 := k14.ch t35.go.ch (by intro hm; (have e0 := hm); omega)
                        replace hX := hX.vt0 t35 ok35 js35 (app_log s.now ⟨f.self, T, rdN m (argN f.stack 0) (argN f.stack 1)⟩) (fun _ => rfl) (c' := c') (by omega)
                        replace U := U.cc t35.go.ch (by intro b hb; exact .inl trivial)
                        have cq9 := SU.ch.size
                        replace SU := SU.xc t35.go.ch (hX.ex.vl.c1 hX.ex.lx.pS rfl) (by intro b hlt hb; have h9 := cq b hlt; have e0 := hb; first | exact hb.elim | omega | (dsimp only at e0; omega))
                        replace cq := cq_step cq t35.col cq9
                        refine ⟨.inr SU, ?_⟩
                        refine p_gstep (j := 2) (t := 51) (by exact rfl) (by exact rfl) (by exact rfl) (et (gS rfl (gS rfl (gS rfl (gS rfl (gS rfl (gS rfl g0)))))) rfl) rfl (y_not (et g0 rfl)) ?_
                        refine p_step (by exact rfl) (y_pickF (et (gS rfl (gS rfl (gS rfl (gS rfl (gS rfl (gS rfl (gS rfl g0))))))) rfl) (et g0 rfl)) ?_
                        refine p_nil ?_
                        refine hK32 _ _ ?_
                        refine fg4 0 2 3 59 (gS rfl (gS rfl (gS rfl (gS rfl (gS rfl (gS rfl (gS rfl (gS rfl (gS rfl (gS rfl (gS rfl (gS rfl (gS rfl (gS rfl (gS rfl (gS rfl g0)))))))))))))))) (gS rfl (gS rfl (gS rfl (gS rfl (gS rfl (gS rfl (gS rfl (gS rfl (gS rfl (gS rfl (gS rfl (gS rfl (gS rfl (gS rfl (gS rfl g0))))))))))))))) (gS rfl (gS rfl (gS rfl (gS rfl (gS rfl (gS rfl (gS rfl (gS rfl (gS rfl (gS rfl (gS rfl (gS rfl (gS rfl (gS rfl g0)))))))))))))) g0 (fun g => ?_)
                        refine c_false (et g0 rfl) (by rfl) ?_
                        refine c_skip ?_
                        refine hK31 _ _ ?_
                        refine fg3 0 2 3 (gS rfl (gS rfl (gS rfl g0))) (gS rfl (gS rfl g0)) (gS rfl g0) (fun g => ?_)
                        exact (by
                          refine c_region ?_
                          refine l_step (y_moveV (et (gS rfl (gS rfl g0)) rfl)) ?_
                          refine l_step (y_moveV (et (gS rfl (gS rfl g0)) rfl)) ?_
                          refine l_step (y_moveV (et (gS rfl (gS rfl g0)) rfl)) ?_
                          refine l_step (y_add rfl (et g0 rfl) (addIN (x := 2) ?_)) ?_
                          omega
                          refine l_step (y_conv Hvaa.underlying3 Hvaa.underlying67 (et g0 rfl) (wrapU_id uk16 ?_)) ?_
                          omega
                          refine l_step (y_bld bN bld65_z) ?_
                          refine l_eff (e_callV cal_259 (aC (et (gS rfl (gS rfl (gS rfl (gS rfl (gS rfl g0))))) rfl) (aC (et (gS rfl (gS rfl (gS rfl (gS rfl g0)))) rfl) (aC (et (gS rfl g0) rfl) (aC rfl (aC (et g0 rfl) (aC (v := .int .u16 ((1 : Nat) : Int)) rfl aN)))))) (m_settle0 hX.ex hs hp rfl (2 + (opcN f - 160)) 0 1 (by omega) (by decide) (by omega))) (fun v37 w37 h37 => ?_)
                          obtain ⟨rfl, cs37, y37⟩ := h37
                          replace k14 := k14.ch y37.et.go.ch (by intro hm; (have e0 := hm); omega)
                          replace hX := hX.trans y37
                          replace U := U.cc y37.et.go.ch (by intro b hb; exact .inl trivial)
                          refine l_nil ?_
                          refine end0 rfl ?_
                          rw [hT] at hX
                          exact ⟨rfl, _, _, _, _, hX⟩)))))))))
end Go.Proofs.YgvaawGreat
