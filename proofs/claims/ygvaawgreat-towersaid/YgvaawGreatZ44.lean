import Derived.Test.YgvaawGreatZ43
set_option maxRecDepth 100000
set_option maxHeartbeats 4000000
set_option linter.unusedSimpArgs false
set_option linter.unusedVariables false
namespace Go.Proofs.YgvaawGreat
open Go
theorem sg_lt {o : Nat} (h : o < 256) : sgN o < 65536 := by
  have : ∀ x : Fin 256, sgN x.1 < 65536 := by decide
  exact this ⟨o, h⟩
theorem mem_mono {a b : Nat} (h : a ≤ b) : memN a ≤ memN b := by
  unfold memN
  have := Nat.div_le_div_right (c := 512) (Nat.mul_le_mul h h)
  omega
theorem m_pass {w : World} {H : Store} {col : Nat → Nat} {bc : Nat} {cs : Array Value} {V : EV} {s : YSt} {sn : List Nat} {sv : List AW} {ms : List (List Nat)} {c : Nat} {low : List YF} {f : YF} (hE : EX w H col bc cs V s sn sv ms c) (hs : s.frames = low ++ [f]) (hp : s.phase = 1) (hms : ms = (low ++ [f]).map (fun g => g.mem)) (hap : s.applied ≤ 4) (hpar : Par low) (q : Nat) (hq256 : q < 256) (hrl : s.ret.length ≤ 717280) :
    Ret 188 [.pointer (some ⟨bc, 0, none⟩), .int .u8 (q : Nat), .int .u16 (sgN q : Nat)] w (fun v w' => (psN s f q ≠ 0 ∧ v = .bool false ∧ XO w H col w' bc (lvY s f (psN s f q) [] low) c) ∨ (psN s f q = 0 ∧ v = .bool true ∧ ∃ col' cs', XT w H col w' H col' bc cs' V { s with frames := low ++ [{ f with gas := f.gas - pcN s f q }] } sn sv (low.map (fun g => g.mem) ++ [pmN f q]) (c + pcN s f q))) := by
  obtain ⟨n9, hn9, hR⟩ := hE.topF hs
  have hB := hE.fbT hs
  have h6 := hE.six hs
  have htop := hE.cTop hs
  have hphs := hE.cPh hp
  have hbp := hB.pc
  have hbs := hB.stk
  have hbg := hB.gas
  have hbc9 := hB.code
  have hnw := hE.vl.new
  have hfz := hE.vl.fz
  have hcC := hE.vl.colC
  have hbc0 := hE.vl.kC.lt
  have hX := XT.refl hE
  have hms8 : ms = low.map (fun g => g.mem) ++ [f.mem] := by rw [hms]; simp
  have hsg := sg_lt hq256
  have hrc := rc_le f.stack q
  have hml := hE.memLe hms8
  refine enter (n := 184) Hvaa.func188 rfl rfl (Nat.le_of_ble_eq_true rfl) ?_
  have U : Ch (fun _ => True) w w := Ch.refl _ w
  refine c_seq (fun K1 hK1 => ?_)
  exact (by
    refine c_region ?_
    refine l_step y_assignC ?_
    refine l_nil ?_
    refine hK1 _ _ ?_
    refine fg3 2 1 0 (gS rfl (gS rfl (gS rfl g0))) (gS rfl (gS rfl g0)) (gS rfl g0) (fun g => ?_)
    refine c_seq (fun K2 hK2 => ?_)
    exact (by
      refine c_region ?_
      refine l_step (y_moveV (et g0 rfl)) ?_
      refine l_eff (e_callV cal_183 (aC (et g0 rfl) aN) (m_running hX.ex hs hp)) (fun v3 w3 h3 => ?_)
      obtain ⟨rfl, u3⟩ := h3
      replace hX := hX.up u3
      replace U := U.tr u3
      refine l_step (y_assignV (et g0 rfl)) ?_
      refine l_nil ?_
      refine hK2 _ _ ?_
      refine fg4 2 1 0 7 (gS rfl (gS rfl (gS rfl (gS rfl (gS rfl g0))))) (gS rfl (gS rfl (gS rfl (gS rfl g0)))) (gS rfl (gS rfl (gS rfl g0))) g0 (fun g => ?_)
      refine c_seq (fun K4 hK4 => ?_)
      refine c_seq (fun K5 hK5 => ?_)
      exact (by
        refine c_region ?_
        refine l_step (y_moveV (et g0 rfl)) ?_
        refine l_step (y_eqlNil Hvaa.underlying276 (et g0 rfl) rfl) ?_
        refine l_nil ?_
        refine hK5 _ _ ?_
        refine fg5 2 1 0 7 16 (gS rfl (gS rfl (gS rfl (gS rfl (gS rfl g0))))) (gS rfl (gS rfl (gS rfl (gS rfl g0)))) (gS rfl (gS rfl (gS rfl g0))) (gS rfl (gS rfl g0)) g0 (fun g => ?_)
        refine c_false (et g0 rfl) rfl ?_
        refine c_skip ?_
        refine hK4 _ _ ?_
        refine fg4 2 1 0 7 (gS rfl (gS rfl (gS rfl (gS rfl g0)))) (gS rfl (gS rfl (gS rfl g0))) (gS rfl (gS rfl g0)) (gS rfl g0) (fun g => ?_)
        refine c_seq (fun K7 hK7 => ?_)
        have hJ7 : ∀ (s_ : Nat → Value) (W7 : World), (∃ (g : Nat → Value), s_ = (upd (upd (upd (upd g 0 (.pointer (some ⟨bc, 0, none⟩))) 1 (.int .u8 (q : Nat))) 2 (.int .u16 (sgN q : Nat))) 7 (.pointer (some ⟨bc, 1803 + 65 * low.length, none⟩))) ∧ (¬ (f.static = true ∧ wrtN f q = true)) ∧ (¬ ((q = 240 ∨ q = 245) ∧ 512 < argN f.stack 2)) ∧ (¬ (q = 62 ∧ s.ret.length < argN f.stack 1 + argN f.stack 2)) ∧ Ch (fun k => False) w3 W7) → K7 (mk 184 s_) W7 := by
          intro s_ W7 hI
          obtain ⟨g, rfl, hA0, hA1, hA2, V7⟩ := hI
          replace hX := hX.ch V7 (by first | exact fun h => h | exact fun _ h => h.elim | exact fun _ _ h => h)
          replace U := U.cc V7 (by intro b hb; first | exact hb.elim | omega | (simp at hb ⊢; omega))
          refine hK7 _ _ ?_
          refine c_seq (fun K8 hK8 => ?_)
          refine c_seq (fun K9 hK9 => ?_)
          exact (by
            refine c_region ?_
            refine l_step (y_moveV (et (gS rfl (gS rfl g0)) rfl)) ?_
            refine l_eff (e_callV cal_266 (aC (et g0 rfl) aN) (mach_flat _ _ (by omega))) (fun v10 w10 h10 => ?_)
            obtain ⟨rfl, u10⟩ := h10
            replace hX := hX.up u10
            replace U := U.tr u10
            refine l_nil ?_
            refine hK9 _ _ ?_
            refine fg5 0 1 2 7 64 (gS rfl (gS rfl (gS rfl (gS rfl (gS rfl g0))))) (gS rfl (gS rfl (gS rfl (gS rfl g0)))) (gS rfl (gS rfl (gS rfl g0))) (gS rfl (gS rfl g0)) g0 (fun g => ?_)
            refine c_cond (et g0 rfl) (fun cB5 => ?_) (fun cB5 => ?_)
            · skip
              
              have hfl : flatN q = true := cB5
              refine c_seq (fun K12 hK12 => ?_)
              refine c_seq (fun K13 hK13 => ?_)
              exact (by
                refine c_region ?_
                refine l_step (y_moveV (et (gS rfl (gS rfl g0)) rfl)) ?_
                refine l_step (y_conv Hvaa.underlying67 Hvaa.underlying26 (et g0 rfl) (wrapU_id uk64 ?_)) ?_
                omega
                refine l_step (y_moveV (et (gS rfl (gS rfl (gS rfl g0))) rfl)) ?_
                refine l_step (y_nil (et g0 rfl)) ?_
                refine l_step (y_fld fld_71_7 (et g0 rfl)) ?_
                refine l_step (y_load1 one_26 (et g0 rfl) (at1 (hX.ex.vl.c1 (hR.r1 7 _ rfl) (by omega)))) ?_
                refine l_step (y_gtr (et (gS rfl (gS rfl (gS rfl (gS rfl g0)))) rfl) (et g0 rfl)) ?_
                refine l_nil ?_
                refine hK13 _ _ ?_
                refine fg4 0 2 7 71 (gS rfl (gS rfl (gS rfl (gS rfl (gS rfl (gS rfl (gS rfl (gS rfl (gS rfl (gS rfl (gS rfl g0))))))))))) (gS rfl (gS rfl (gS rfl (gS rfl (gS rfl (gS rfl (gS rfl (gS rfl (gS rfl g0))))))))) (gS rfl (gS rfl (gS rfl (gS rfl (gS rfl (gS rfl (gS rfl (gS rfl g0)))))))) g0 (fun g => ?_)
                refine c_cond (et g0 rfl) (fun cB6 => ?_) (fun cB6 => ?_)
                · skip
                  
                  have h6g : f.gas < sgN q := by have := of_decide_eq_true cB6; omega
                  refine c_seq (fun K15 hK15 => ?_)
                  exact (by
                    refine c_region ?_
                    refine l_step (y_moveV (et (gS rfl (gS rfl (gS rfl g0))) rfl)) ?_
                    refine l_eff (e_callV cal_185 (aC (et g0 rfl) (aC (v := .int .u8 ((2 : Nat) : Int)) rfl aN)) (m_fail hX.ex hs hp 2 (by decide) hms hap hpar)) (fun v16 w16 h16 => ?_)
                    obtain ⟨rfl, hO16⟩ := h16
                    replace hX := hX.xo hO16
                    replace U := U.cc hO16.chc (by intro b hb; exact .inl trivial)
                    refine l_step (y_assignV (et g0 rfl)) ?_
                    refine l_nil ?_
                    refine hK15 _ _ ?_
                    refine fg1 6 g0 (fun g => ?_)
                    refine c_ret ?_
                    repeat with_reducible refine then_ret ?_
                    refine ret1 rfl (res_tmp (et g0 rfl)) ?_
                    have eps : psN s f q = 2 := by unfold psN; rw [if_neg hA0, if_neg hA1, if_neg hA2, if_pos hfl, if_pos h6g]
                    exact .inl ⟨by rw [eps]; decide, rfl, by rw [eps]; exact hX⟩)
                · skip
                  
                  have h6g : ¬ f.gas < sgN q := by have := of_decide_eq_false cB6; omega
                  refine c_skip ?_
                  refine hK12 _ _ ?_
                  refine fg2 2 7 (gS rfl (gS rfl g0)) (gS rfl g0) (fun g => ?_)
                  refine c_seq (fun K17 hK17 => ?_)
                  exact (by
                    refine c_region ?_
                    refine l_step (y_moveV (et g0 rfl)) ?_
                    refine l_step (y_nil (et g0 rfl)) ?_
                    refine l_step (y_fld fld_71_7 (et g0 rfl)) ?_
                    refine l_step (y_load1 one_26 (et g0 rfl) (at1 (hX.ex.vl.c1 (hR.r1 7 _ rfl) (by omega)))) ?_
                    refine l_step (y_moveV (et (gS rfl (gS rfl (gS rfl (gS rfl (gS rfl g0))))) rfl)) ?_
                    refine l_step (y_conv Hvaa.underlying67 Hvaa.underlying26 (et g0 rfl) (wrapU_id uk64 ?_)) ?_
                    omega
                    refine l_step (y_sub (et (gS rfl (gS rfl g0)) rfl) (et g0 rfl) (wrapU_subN uk64 ?_ ?_)) ?_
                    omega
                    omega
                    refine l_step (y_nil (et (gS rfl (gS rfl (gS rfl (gS rfl (gS rfl (gS rfl g0)))))) rfl)) ?_
                    refine l_step (y_fld fld_71_7 (et g0 rfl)) ?_
                    refine l_effN (e_store sz_26 (et g0 rfl) (cellsV (et (gS rfl (gS rfl g0)) rfl) rfl) rfl (by intro v hv; simp at hv; subst hv; rfl) hX.ex.vl.kC (by rw [hX.ex.vl.size]; omega)) (fun v18 w18 h18 => ?_)
                    obtain ⟨rfl, x18⟩ := h18
                    have hv18 := hX.stGas hs hp (p := f.gas - sgN q) (c' := c + sgN q) (by omega) (by omega) (by omega) x18
                    replace hX := hv18
                    replace U := U.cc x18.ch (by intro b hb; exact .inl trivial)
                    refine l_nil ?_
                    refine hK17 _ _ ?_
                    refine fg0 (fun g => ?_)
                    refine c_seq (fun K19 hK19 => ?_)
                    exact (by
                      refine c_region ?_
                      refine l_step y_assignC ?_
                      refine l_nil ?_
                      refine hK19 _ _ ?_
                      refine c_ret ?_
                      repeat with_reducible refine then_ret ?_
                      refine ret1 rfl (res_tmp (et g0 rfl)) ?_
                      have eps : psN s f q = 0 := by unfold psN; rw [if_neg hA0, if_neg hA1, if_neg hA2, if_pos hfl, if_neg h6g]
                      have epc : pcN s f q = sgN q := if_pos hfl
                      have epm : pmN f q = f.mem := if_pos hfl
                      rw [epc, epm, ← hms8]
                      exact .inr ⟨eps, rfl, _, _, hX⟩)))
            · skip
              
              have hfl : ¬ flatN q = true := by rw [cB5]; decide
              refine c_skip ?_
              refine hK8 _ _ ?_
              refine fg4 0 1 2 7 (gS rfl (gS rfl (gS rfl (gS rfl g0)))) (gS rfl (gS rfl (gS rfl g0))) (gS rfl (gS rfl g0)) (gS rfl g0) (fun g => ?_)
              refine c_seq (fun K20 hK20 => ?_)
              exact (by
                refine c_region ?_
                refine l_step (y_moveV (et (gS rfl (gS rfl (gS rfl g0))) rfl)) ?_
                refine l_step (y_moveV (et (gS rfl g0) rfl)) ?_
                refine l_step (y_moveV (et (gS rfl (gS rfl (gS rfl (gS rfl g0)))) rfl)) ?_
                refine l_eff (e_callV cal_267 (aC (et (gS rfl (gS rfl g0)) rfl) (aC (et (gS rfl g0) rfl) (aC (et g0 rfl) aN))) (m_reaches hX.ex hs hp rfl q hq256)) (fun v21 w21 h21 => ?_)
                obtain ⟨rfl, u21⟩ := h21
                replace hX := hX.up u21
                replace U := U.tr u21
                refine l_step (y_moveV (et g0 rfl)) ?_
                refine l_step (y_ext (et g0 rfl) rfl) ?_
                refine l_step (y_ext (et (gS rfl g0) rfl) rfl) ?_
                refine l_step (y_assignV (et (gS rfl g0) rfl)) ?_
                refine l_step (y_assignV (et (gS rfl g0) rfl)) ?_
                refine l_nil ?_
                refine hK20 _ _ ?_
                refine fg6 0 1 2 7 8 9 (gS rfl (gS rfl (gS rfl (gS rfl (gS rfl (gS rfl (gS rfl (gS rfl (gS rfl (gS rfl (gS rfl (gS rfl g0)))))))))))) (gS rfl (gS rfl (gS rfl (gS rfl (gS rfl (gS rfl (gS rfl (gS rfl (gS rfl (gS rfl (gS rfl g0))))))))))) (gS rfl (gS rfl (gS rfl (gS rfl (gS rfl (gS rfl (gS rfl (gS rfl (gS rfl (gS rfl g0)))))))))) (gS rfl (gS rfl (gS rfl (gS rfl (gS rfl (gS rfl (gS rfl (gS rfl (gS rfl g0))))))))) (gS rfl g0) g0 (fun g => ?_)
                refine c_seq (fun K22 hK22 => ?_)
                refine c_seq (fun K23 hK23 => ?_)
                exact (by
                  refine c_region ?_
                  refine l_step (y_moveV (et g0 rfl)) ?_
                  refine l_step (y_not (et g0 rfl)) ?_
                  refine l_nil ?_
                  refine hK23 _ _ ?_
                  refine fg6 0 1 2 7 8 91 (gS rfl (gS rfl (gS rfl (gS rfl (gS rfl (gS rfl (gS rfl g0))))))) (gS rfl (gS rfl (gS rfl (gS rfl (gS rfl (gS rfl g0)))))) (gS rfl (gS rfl (gS rfl (gS rfl (gS rfl g0))))) (gS rfl (gS rfl (gS rfl (gS rfl g0)))) (gS rfl (gS rfl (gS rfl g0))) g0 (fun g => ?_)
                  refine c_cond (et g0 rfl) (fun cB7 => ?_) (fun cB7 => ?_)
                  · skip
                    
                    have hrb : rbN f.stack q = false := by simpa using cB7
                    refine c_seq (fun K25 hK25 => ?_)
                    exact (by
                      refine c_region ?_
                      refine l_step (y_moveV (et (gS rfl (gS rfl (gS rfl (gS rfl (gS rfl g0))))) rfl)) ?_
                      refine l_eff (e_callV cal_185 (aC (et g0 rfl) (aC (v := .int .u8 ((2 : Nat) : Int)) rfl aN)) (m_fail hX.ex hs hp 2 (by decide) hms hap hpar)) (fun v26 w26 h26 => ?_)
                      obtain ⟨rfl, hO26⟩ := h26
                      replace hX := hX.xo hO26
                      replace U := U.cc hO26.chc (by intro b hb; exact .inl trivial)
                      refine l_step (y_assignV (et g0 rfl)) ?_
                      refine l_nil ?_
                      refine hK25 _ _ ?_
                      refine fg1 6 g0 (fun g => ?_)
                      refine c_ret ?_
                      repeat with_reducible refine then_ret ?_
                      refine ret1 rfl (res_tmp (et g0 rfl)) ?_
                      have eps : psN s f q = 2 := by unfold psN; rw [if_neg hA0, if_neg hA1, if_neg hA2, if_neg hfl, if_pos hrb]
                      exact .inl ⟨by rw [eps]; decide, rfl, by rw [eps]; exact hX⟩)
                  · skip
                    
                    have hrb : rbN f.stack q = true := by simpa using cB7
                    refine c_skip ?_
                    refine hK22 _ _ ?_
                    refine fg5 0 1 2 7 8 (gS rfl (gS rfl (gS rfl (gS rfl (gS rfl g0))))) (gS rfl (gS rfl (gS rfl (gS rfl g0)))) (gS rfl (gS rfl (gS rfl g0))) (gS rfl (gS rfl g0)) (gS rfl g0) (fun g => ?_)
                    refine c_seq (fun K27 hK27 => ?_)
                    exact (by
                      refine c_region ?_
                      refine l_step (y_moveV (et (gS rfl (gS rfl (gS rfl (gS rfl g0)))) rfl)) ?_
                      refine l_step (y_nil (et g0 rfl)) ?_
                      refine l_step (y_fld fld_75_1 (et g0 rfl)) ?_
                      refine l_eff (e_callV cal_268 (aC (et g0 rfl) aN) (hX.ex.mLen hms8)) (fun v28 w28 h28 => ?_)
                      obtain ⟨rfl, u28⟩ := h28
                      replace hX := hX.up u28
                      replace U := U.tr u28
                      refine l_step (y_quo (et g0 rfl) rfl (by decide) (quoU (b := 32) uk32 ?_)) ?_
                      omega
                      refine l_step (y_conv Hvaa.underlying60 Hvaa.underlying26 (et g0 rfl) (wrapU_id uk64 ?_)) ?_
                      omega
                      refine l_step (y_assignV (et g0 rfl)) ?_
                      refine l_nil ?_
                      refine hK27 _ _ ?_
                      refine fg6 0 1 2 7 8 10 (gS rfl (gS rfl (gS rfl (gS rfl (gS rfl (gS rfl (gS rfl (gS rfl (gS rfl (gS rfl (gS rfl g0))))))))))) (gS rfl (gS rfl (gS rfl (gS rfl (gS rfl (gS rfl (gS rfl (gS rfl (gS rfl (gS rfl g0)))))))))) (gS rfl (gS rfl (gS rfl (gS rfl (gS rfl (gS rfl (gS rfl (gS rfl (gS rfl g0))))))))) (gS rfl (gS rfl (gS rfl (gS rfl (gS rfl (gS rfl (gS rfl (gS rfl g0)))))))) (gS rfl (gS rfl (gS rfl (gS rfl (gS rfl (gS rfl (gS rfl g0))))))) g0 (fun g => ?_)
                      refine c_seq (fun K29 hK29 => ?_)
                      exact (by
                        refine c_region ?_
                        refine l_step (y_moveV (et (gS rfl (gS rfl (gS rfl g0))) rfl)) ?_
                        refine l_step (y_conv Hvaa.underlying67 Hvaa.underlying26 (et g0 rfl) (wrapU_id uk64 ?_)) ?_
                        omega
                        refine l_step (y_moveV (et (gS rfl (gS rfl (gS rfl (gS rfl (gS rfl (gS rfl (gS rfl g0))))))) rfl)) ?_
                        refine l_step (y_moveV (et (gS rfl (gS rfl (gS rfl (gS rfl (gS rfl g0))))) rfl)) ?_
                        refine l_step (y_moveV (et (gS rfl (gS rfl (gS rfl (gS rfl (gS rfl (gS rfl (gS rfl (gS rfl g0)))))))) rfl)) ?_
                        refine l_eff (e_callV cal_269 (aC (et (gS rfl (gS rfl g0)) rfl) (aC (et (gS rfl g0) rfl) (aC (et g0 rfl) aN))) (m_dynamic hX.ex hs hp rfl q hq256 hrb)) (fun v30 w30 h30 => ?_)
                        obtain ⟨rfl, u30⟩ := h30
                        replace hX := hX.up u30
                        replace U := U.tr u30
                        have hdl := dyn_le (s := s) hB hrb
                        refine l_step (y_add (et (gS rfl (gS rfl (gS rfl (gS rfl g0)))) rfl) (et g0 rfl) (wrapU_addN uk64 ?_)) ?_
                        omega
                        refine l_step (y_assignV (et g0 rfl)) ?_
                        refine l_nil ?_
                        refine hK29 _ _ ?_
                        refine fg6 0 1 7 8 10 11 (gS rfl (gS rfl (gS rfl (gS rfl (gS rfl (gS rfl (gS rfl (gS rfl (gS rfl (gS rfl (gS rfl (gS rfl (gS rfl g0))))))))))))) (gS rfl (gS rfl (gS rfl (gS rfl (gS rfl (gS rfl (gS rfl (gS rfl (gS rfl (gS rfl (gS rfl (gS rfl g0)))))))))))) (gS rfl (gS rfl (gS rfl (gS rfl (gS rfl (gS rfl (gS rfl (gS rfl (gS rfl (gS rfl g0)))))))))) (gS rfl (gS rfl (gS rfl (gS rfl (gS rfl (gS rfl (gS rfl (gS rfl (gS rfl g0))))))))) (gS rfl (gS rfl (gS rfl (gS rfl (gS rfl (gS rfl (gS rfl (gS rfl g0)))))))) g0 (fun g => ?_)
                        refine c_seq (fun K31 hK31 => ?_)
                        have hJ31 : ∀ (s_ : Nat → Value) (W31 : World), (∃ (g : Nat → Value) (cst : Nat), s_ = (upd (upd (upd (upd (upd (upd g 0 (.pointer (some ⟨bc, 0, none⟩))) 1 (.int .u8 (q : Nat))) 7 (.pointer (some ⟨bc, 1803 + 65 * low.length, none⟩))) 8 (.int .u64 (rcN f.stack q : Nat))) 10 (.int .u64 (f.mem.length / 32 : Nat))) 11 (.int .u64 (cst : Nat))) ∧ (cst = pcN s f q) ∧ (cst ≤ 8000000) ∧ Ch (fun k => False) w30 W31) → K31 (mk 184 s_) W31 := by
                          intro s_ W31 hI
                          obtain ⟨g, cst, rfl, hcst, hcl, V31⟩ := hI
                          replace hX := hX.ch V31 (by first | exact fun h => h | exact fun _ h => h.elim | exact fun _ _ h => h)
                          replace U := U.cc V31 (by intro b hb; first | exact hb.elim | omega | (simp at hb ⊢; omega))
                          refine hK31 _ _ ?_
                          refine c_seq (fun K32 hK32 => ?_)
                          refine c_seq (fun K33 hK33 => ?_)
                          have hJ33 : ∀ (s_ : Nat → Value) (W33 : World), (∃ (g : Nat → Value) (b9 : Bool), s_ = (upd (upd (upd (upd (upd (upd (upd g 0 (.pointer (some ⟨bc, 0, none⟩))) 1 (.int .u8 (q : Nat))) 7 (.pointer (some ⟨bc, 1803 + 65 * low.length, none⟩))) 8 (.int .u64 (rcN f.stack q : Nat))) 10 (.int .u64 (f.mem.length / 32 : Nat))) 11 (.int .u64 (cst : Nat))) 133 (.bool b9)) ∧ (b9 = decide (f.gas < cst ∨ (q = 85 ∧ f.gas ≤ 2300))) ∧ Ch (fun k => False) W31 W33) → K33 (mk 184 s_) W33 := by
                            intro s_ W33 hI
                            obtain ⟨g, b9, rfl, hb9, V33⟩ := hI
                            replace hX := hX.ch V33 (by first | exact fun h => h | exact fun _ h => h.elim | exact fun _ _ h => h)
                            replace U := U.cc V33 (by intro b hb; first | exact hb.elim | omega | (simp at hb ⊢; omega))
                            refine hK33 _ _ ?_
                            refine c_cond (et g0 rfl) (fun cB9 => ?_) (fun cB9 => ?_)
                            · skip
                              rw [hb9] at cB9
                              have h9 := of_decide_eq_true cB9
                              refine c_seq (fun K35 hK35 => ?_)
                              exact (by
                                refine c_region ?_
                                refine l_step (y_moveV (et (gS rfl (gS rfl (gS rfl (gS rfl (gS rfl (gS rfl g0)))))) rfl)) ?_
                                refine l_eff (e_callV cal_185 (aC (et g0 rfl) (aC (v := .int .u8 ((2 : Nat) : Int)) rfl aN)) (m_fail hX.ex hs hp 2 (by decide) hms hap hpar)) (fun v36 w36 h36 => ?_)
                                obtain ⟨rfl, hO36⟩ := h36
                                replace hX := hX.xo hO36
                                replace U := U.cc hO36.chc (by intro b hb; exact .inl trivial)
                                refine l_step (y_assignV (et g0 rfl)) ?_
                                refine l_nil ?_
                                refine hK35 _ _ ?_
                                refine fg1 6 g0 (fun g => ?_)
                                refine c_ret ?_
                                repeat with_reducible refine then_ret ?_
                                refine ret1 rfl (res_tmp (et g0 rfl)) ?_
                                have eps : psN s f q = 2 := by unfold psN; rw [if_neg hA0, if_neg hA1, if_neg hA2, if_neg hfl, if_neg (by rw [hrb]; decide), ← hcst, if_pos h9]
                                exact .inl ⟨by rw [eps]; decide, rfl, by rw [eps]; exact hX⟩)
                            · skip
                              rw [hb9] at cB9
                              have h9 := of_decide_eq_false cB9
                              refine c_skip ?_
                              refine hK32 _ _ ?_
                              refine fg6 0 1 7 8 10 11 (gS rfl (gS rfl (gS rfl (gS rfl (gS rfl (gS rfl g0)))))) (gS rfl (gS rfl (gS rfl (gS rfl (gS rfl g0))))) (gS rfl (gS rfl (gS rfl (gS rfl g0)))) (gS rfl (gS rfl (gS rfl g0))) (gS rfl (gS rfl g0)) (gS rfl g0) (fun g => ?_)
                              refine c_seq (fun K37 hK37 => ?_)
                              have hJ37 : ∀ (s_ : Nat → Value) (W37 : World), (∃ (g : Nat → Value), s_ = (upd (upd (upd (upd (upd g 0 (.pointer (some ⟨bc, 0, none⟩))) 7 (.pointer (some ⟨bc, 1803 + 65 * low.length, none⟩))) 8 (.int .u64 (rcN f.stack q : Nat))) 10 (.int .u64 (f.mem.length / 32 : Nat))) 11 (.int .u64 (cst : Nat))) ∧ (¬ ((q = 86 ∨ (q = 87 ∧ argN f.stack 1 ≠ 0)) ∧ destN f.code (argN f.stack 0) = false)) ∧ Ch (fun k => False) W33 W37) → K37 (mk 184 s_) W37 := by
                                intro s_ W37 hI
                                obtain ⟨g, rfl, hJ, V37⟩ := hI
                                replace hX := hX.ch V37 (by first | exact fun h => h | exact fun _ h => h.elim | exact fun _ _ h => h)
                                replace U := U.cc V37 (by intro b hb; first | exact hb.elim | omega | (simp at hb ⊢; omega))
                                refine hK37 _ _ ?_
                                refine c_seq (fun K38 hK38 => ?_)
                                exact (by
                                  refine c_region ?_
                                  refine l_step (y_moveV (et (gS rfl (gS rfl (gS rfl g0))) rfl)) ?_
                                  refine l_step (y_nil (et g0 rfl)) ?_
                                  refine l_step (y_fld fld_71_7 (et g0 rfl)) ?_
                                  refine l_step (y_load1 one_26 (et g0 rfl) (at1 (hX.ex.vl.c1 (hR.r1 7 _ rfl) (by omega)))) ?_
                                  refine l_step (y_moveV (et (gS rfl (gS rfl (gS rfl (gS rfl g0)))) rfl)) ?_
                                  refine l_step (y_sub (et (gS rfl g0) rfl) (et g0 rfl) (wrapU_subN uk64 ?_ ?_)) ?_
                                  omega
                                  omega
                                  refine l_step (y_nil (et (gS rfl (gS rfl (gS rfl (gS rfl (gS rfl g0))))) rfl)) ?_
                                  refine l_step (y_fld fld_71_7 (et g0 rfl)) ?_
                                  refine l_effN (e_store sz_26 (et g0 rfl) (cellsV (et (gS rfl (gS rfl g0)) rfl) rfl) rfl (by intro v hv; simp at hv; subst hv; rfl) hX.ex.vl.kC (by rw [hX.ex.vl.size]; omega)) (fun v39 w39 h39 => ?_)
                                  obtain ⟨rfl, x39⟩ := h39
                                  have hv39 := hX.stGas hs hp (p := f.gas - cst) (c' := c + cst) (by omega) (by omega) (by omega) x39
                                  replace hX := hv39
                                  replace U := U.cc x39.ch (by intro b hb; exact .inl trivial)
                                  refine l_nil ?_
                                  refine hK38 _ _ ?_
                                  refine fg3 0 8 10 (gS rfl (gS rfl (gS rfl (gS rfl (gS rfl (gS rfl (gS rfl (gS rfl (gS rfl (gS rfl (gS rfl (gS rfl g0)))))))))))) (gS rfl (gS rfl (gS rfl (gS rfl (gS rfl (gS rfl (gS rfl (gS rfl (gS rfl (gS rfl g0)))))))))) (gS rfl (gS rfl (gS rfl (gS rfl (gS rfl (gS rfl (gS rfl (gS rfl (gS rfl g0))))))))) (fun g => ?_)
                                  refine c_seq (fun K40 hK40 => ?_)
                                  refine c_seq (fun K41 hK41 => ?_)
                                  exact (by
                                    refine c_region ?_
                                    refine l_step (y_moveV (et (gS rfl g0) rfl)) ?_
                                    refine l_step (y_moveV (et (gS rfl g0) rfl)) ?_
                                    refine l_step (y_gtr (et (gS rfl g0) rfl) (et g0 rfl)) ?_
                                    refine l_step (y_moveV (et g0 rfl)) ?_
                                    refine gsplitL (i := 173) g0 (fun q42 => ?_) (fun q42 => ?_)
                                    · skip
                                      have h8 : f.mem.length / 32 < rcN f.stack q := by have := of_decide_eq_true q42; omega
                                      refine l_gstep (j := 3) (t := 173) (by exact rfl) (by exact rfl) (et g0 rfl) (by decide) (y_moveV (et (gS rfl (gS rfl (gS rfl (gS rfl (gS rfl (gS rfl (gS rfl g0))))))) rfl)) ?_
                                      refine l_gstep (j := 3) (t := 173) (by exact rfl) (by exact rfl) (et (gS rfl g0) rfl) (by decide) (y_nil (et g0 rfl)) ?_
                                      refine l_gstep (j := 3) (t := 173) (by exact rfl) (by exact rfl) (et (gS rfl (gS rfl g0)) rfl) (by decide) (y_fld fld_75_1 (et g0 rfl)) ?_
                                      refine l_gstep (j := 3) (t := 173) (by exact rfl) (by exact rfl) (et (gS rfl (gS rfl (gS rfl g0))) rfl) (by decide) (y_moveV (et (gS rfl (gS rfl (gS rfl (gS rfl (gS rfl (gS rfl (gS rfl (gS rfl (gS rfl g0))))))))) rfl)) ?_
                                      refine l_gstep (j := 3) (t := 173) (by exact rfl) (by exact rfl) (et (gS rfl (gS rfl (gS rfl (gS rfl g0)))) rfl) (by decide) (y_conv Hvaa.underlying26 Hvaa.underlying60 (et g0 rfl) (wrapU_id uk32 ?_)) ?_
                                      omega
                                      refine l_geff (j := 3) (t := 173) (by exact rfl) (by exact rfl) (et (gS rfl (gS rfl (gS rfl (gS rfl (gS rfl g0))))) rfl) rfl (e_callV cal_272 (aC (et (gS rfl (gS rfl g0)) rfl) (aC (et g0 rfl) aN)) (hX.growC hms8 (rcN f.stack q) hrc (by omega) (by rw [List.length_map]; exact h6))) (fun v43 w43 h43 => ?_)
                                      obtain ⟨rfl, cl43, cs43, y43, x43⟩ := h43
                                      replace hX := y43
                                      replace U := U.cc x43 (by intro b hb; exact .inl trivial)
                                      refine l_gstep (j := 3) (t := 173) (by exact rfl) (by exact rfl) (et (gS rfl (gS rfl (gS rfl (gS rfl (gS rfl (gS rfl g0)))))) rfl) (by decide) (y_not (et g0 rfl)) ?_
                                      refine l_step (y_pickT (et (gS rfl (gS rfl (gS rfl (gS rfl (gS rfl (gS rfl (gS rfl g0))))))) rfl) (et g0 rfl)) ?_
                                      refine l_nil ?_
                                      refine hK41 _ _ ?_
                                      refine fg2 0 181 (gS rfl (gS rfl (gS rfl (gS rfl (gS rfl (gS rfl (gS rfl (gS rfl (gS rfl (gS rfl (gS rfl (gS rfl (gS rfl (gS rfl (gS rfl g0))))))))))))))) g0 (fun g => ?_)
                                      refine c_false (et g0 rfl) (by rfl) ?_
                                      refine c_skip ?_
                                      refine hK40 _ _ ?_
                                      refine fg0 (fun g => ?_)
                                      refine c_seq (fun K45 hK45 => ?_)
                                      exact (by
                                        refine c_region ?_
                                        refine l_step y_assignC ?_
                                        refine l_nil ?_
                                        refine hK45 _ _ ?_
                                        refine c_ret ?_
                                        repeat with_reducible refine then_ret ?_
                                        refine ret1 rfl (res_tmp (et g0 rfl)) ?_
                                        have eps : psN s f q = 0 := by unfold psN; rw [if_neg hA0, if_neg hA1, if_neg hA2, if_neg hfl, if_neg (by rw [hrb]; decide), ← hcst, if_neg h9, if_neg hJ]
                                        have epm : pmN f q = f.mem ++ List.replicate (32 * rcN f.stack q - f.mem.length) 0 := by rw [pmN, if_neg hfl, if_pos h8]
                                        rw [← hcst, epm]
                                        exact .inr ⟨eps, rfl, _, _, hX⟩)
                                    · skip
                                      have h8 : ¬ f.mem.length / 32 < rcN f.stack q := by have := of_decide_eq_false q42; omega
                                      refine l_gskip (j := 3) (t := 173) (by exact rfl) (by exact rfl) (et g0 rfl) (by decide) (by decide) ?_
                                      refine l_gskip (j := 3) (t := 173) (by exact rfl) (by exact rfl) (et (gS rfl g0) rfl) (by decide) (by decide) ?_
                                      refine l_gskip (j := 3) (t := 173) (by exact rfl) (by exact rfl) (et (gS rfl (gS rfl g0)) rfl) (by decide) (by decide) ?_
                                      refine l_gskip (j := 3) (t := 173) (by exact rfl) (by exact rfl) (et (gS rfl (gS rfl (gS rfl g0))) rfl) (by decide) (by decide) ?_
                                      refine l_gskip (j := 3) (t := 173) (by exact rfl) (by exact rfl) (et (gS rfl (gS rfl (gS rfl (gS rfl g0)))) rfl) (by decide) (by decide) ?_
                                      refine l_gskip (j := 3) (t := 173) (by exact rfl) (by exact rfl) (et (gS rfl (gS rfl (gS rfl (gS rfl (gS rfl g0))))) rfl) (by decide) (by decide) ?_
                                      refine l_gskip (j := 3) (t := 173) (by exact rfl) (by exact rfl) (et (gS rfl (gS rfl (gS rfl (gS rfl (gS rfl (gS rfl g0)))))) rfl) (by decide) (by decide) ?_
                                      refine l_step (y_pickF (et (gS rfl (gS rfl (gS rfl (gS rfl (gS rfl (gS rfl (gS rfl g0))))))) rfl) rfl) ?_
                                      refine l_nil ?_
                                      refine hK41 _ _ ?_
                                      refine fg2 0 181 (gS rfl (gS rfl (gS rfl (gS rfl (gS rfl (gS rfl (gS rfl (gS rfl (gS rfl (gS rfl (gS rfl (gS rfl (gS rfl (gS rfl (gS rfl g0))))))))))))))) g0 (fun g => ?_)
                                      refine c_false (et g0 rfl) rfl ?_
                                      refine c_skip ?_
                                      refine hK40 _ _ ?_
                                      refine fg0 (fun g => ?_)
                                      refine c_seq (fun K47 hK47 => ?_)
                                      exact (by
                                        refine c_region ?_
                                        refine l_step y_assignC ?_
                                        refine l_nil ?_
                                        refine hK47 _ _ ?_
                                        refine c_ret ?_
                                        repeat with_reducible refine then_ret ?_
                                        refine ret1 rfl (res_tmp (et g0 rfl)) ?_
                                        have eps : psN s f q = 0 := by unfold psN; rw [if_neg hA0, if_neg hA1, if_neg hA2, if_neg hfl, if_neg (by rw [hrb]; decide), ← hcst, if_neg h9, if_neg hJ]
                                        have epm : pmN f q = f.mem := by rw [pmN, if_neg hfl, if_neg h8]
                                        rw [← hcst, epm, ← hms8]
                                        exact .inr ⟨eps, rfl, _, _, hX⟩)))
                              have V37 : Ch (fun k => False) W33 W33 := Ch.refl _ _
                              refine c_seq (fun K48 hK48 => ?_)
                              exact (by
                                refine c_region ?_
                                refine l_step (y_moveV (et (gS rfl (gS rfl (gS rfl (gS rfl g0)))) rfl)) ?_
                                refine l_step (y_eql (et g0 rfl) rfl) ?_
                                refine l_step (y_moveV (et g0 rfl)) ?_
                                refine l_gpure (j := 2) (t := 138) (by exact rfl) (by exact rfl) (et g0 rfl) rfl (fun hc => (y_moveV (et (gS rfl (gS rfl (gS rfl (gS rfl (gS rfl (gS rfl (gS rfl g0))))))) rfl))) ?_
                                refine l_gpure (j := 2) (t := 138) (by exact rfl) (by exact rfl) (et (gS rfl g0) rfl) rfl (fun hc => (y_eql (et (cT g0 hc) rfl) rfl)) ?_
                                refine l_step (y_pickO (et (gS rfl (gS rfl g0)) rfl) rfl (et g0 rfl)) ?_
                                refine l_nil ?_
                                refine hK48 _ _ ?_
                                refine fg7 0 1 7 8 10 11 141 (gS rfl (gS rfl (gS rfl (gS rfl (gS rfl (gS rfl (gS rfl (gS rfl (gS rfl (gS rfl (gS rfl g0))))))))))) (gS rfl (gS rfl (gS rfl (gS rfl (gS rfl (gS rfl (gS rfl (gS rfl (gS rfl (gS rfl g0)))))))))) (gS rfl (gS rfl (gS rfl (gS rfl (gS rfl (gS rfl (gS rfl (gS rfl (gS rfl g0))))))))) (gS rfl (gS rfl (gS rfl (gS rfl (gS rfl (gS rfl (gS rfl (gS rfl g0)))))))) (gS rfl (gS rfl (gS rfl (gS rfl (gS rfl (gS rfl (gS rfl g0))))))) (gS rfl (gS rfl (gS rfl (gS rfl (gS rfl (gS rfl g0)))))) g0 (fun g => ?_)
                                refine c_cond (et g0 rfl) (fun cB10 => ?_) (fun cB10 => ?_)
                                · skip
                                  
                                  have h10 : q = 86 ∨ q = 87 := by simp at cB10; omega
                                  refine c_seq (fun K50 hK50 => ?_)
                                  exact (by
                                    refine c_region ?_
                                    refine l_step (y_moveV (et (gS rfl (gS rfl (gS rfl (gS rfl (gS rfl (gS rfl g0)))))) rfl)) ?_
                                    refine l_step (y_moveV (et (gS rfl (gS rfl (gS rfl (gS rfl (gS rfl g0))))) rfl)) ?_
                                    refine l_eff (e_callV cal_264 (aC (et (gS rfl g0) rfl) (aC (et g0 rfl) (aC (v := .int .i64 ((1 : Nat) : Int)) rfl aN))) (m_arg hX.ex hs hp (by first | exact hpf | rfl) _ (by decide))) (fun v51 w51 h51 => ?_)
                                    obtain ⟨rfl, u51⟩ := h51
                                    replace hX := hX.up u51
                                    replace U := U.tr u51
                                    replace V37 := V37.tr u51
                                    have hnwN := hX.ex.vl.new
                                    have hfzN := hX.ex.vl.fz
                                    refine l_eff (e_alloc zr_65) (fun v52 w52 h52 => ?_)
                                    obtain ⟨b52, rfl, n52⟩ := h52
                                    have f52 : w.heap.size ≤ b52 := Nat.le_trans U.size n52.fresh
                                    have fV37_52 := Nat.le_trans V37.size n52.fresh
                                    replace hX := hX.up n52.up
                                    replace U := U.tr n52.up
                                    replace V37 := V37.tr n52.up
                                    have k52 := n52.blk
                                    obtain ⟨zs52, hz52, k52⟩ : ∃ cs : Array Value, cs.size = 4 ∧ Blk w52 b52 cs := ⟨_, rfl, k52⟩
                                    have nc52 := hnwN b52 n52.fresh
                                    have nh52 : ¬ H.has b52 := fun hh => by have h9 := hfzN.lt hh; have h8 := n52.fresh; omega
                                    refine l_effN (e_store sz_65 (et g0 rfl) (cellsV (et (gS rfl g0) rfl) rfl) rfl (by exact one_uL _) k52 (by (first | (rw [hz52]; exact Nat.le_refl _) | (rw [List.size_toArray, wL_len]; exact Nat.le_refl _)))) (fun v53 w53 h53 => ?_)
                                    obtain ⟨rfl, x53⟩ := h53
                                    replace hX := hX.ch x53.ch (by first | omega | (intro b hb; first | (subst hb; first | exact ⟨by omega, fun hh => by have := hfz.lt hh; omega, by omega⟩ | exact ⟨by omega, by assumption, by omega⟩) | (rcases hb with hb | hb <;> (subst hb; first | exact ⟨by omega, fun hh => by have := hfz.lt hh; omega, by omega⟩ | exact ⟨by omega, by assumption, by omega⟩))))
                                    replace k52 := x53.blk.full (by first | (rw [hz52]; rfl) | (rw [List.size_toArray, wL_len, wL_len]))
                                    replace U := U.st x53 (.inr f52)
                                    replace V37 := V37.st x53 (by omega)
                                    refine l_nil ?_
                                    refine hK50 _ _ ?_
                                    refine fg7 0 1 7 8 10 11 12 (gS rfl (gS rfl (gS rfl (gS rfl (gS rfl (gS rfl (gS rfl (gS rfl (gS rfl (gS rfl g0)))))))))) (gS rfl (gS rfl (gS rfl (gS rfl (gS rfl (gS rfl (gS rfl (gS rfl (gS rfl g0))))))))) (gS rfl (gS rfl (gS rfl (gS rfl (gS rfl (gS rfl (gS rfl (gS rfl g0)))))))) (gS rfl (gS rfl (gS rfl (gS rfl (gS rfl (gS rfl (gS rfl g0))))))) (gS rfl (gS rfl (gS rfl (gS rfl (gS rfl (gS rfl g0)))))) (gS rfl (gS rfl (gS rfl (gS rfl (gS rfl g0))))) g0 (fun g => ?_)
                                    refine c_seq (fun K54 hK54 => ?_)
                                    exact (by
                                      refine c_region ?_
                                      refine l_step (y_moveV (et (gS rfl (gS rfl (gS rfl (gS rfl (gS rfl g0))))) rfl)) ?_
                                      refine l_step (y_eql (et g0 rfl) rfl) ?_
                                      refine l_step (y_moveV (et g0 rfl)) ?_
                                      refine gsplitL (i := 147) g0 (fun q55 => ?_) (fun q55 => ?_)
                                      · skip
                                        have h86 : q = 86 := by have := of_decide_eq_true q55; omega
                                        refine l_gskip (j := 2) (t := 147) (by exact rfl) (by exact rfl) (et g0 rfl) (by decide) (by decide) ?_
                                        refine l_gskip (j := 2) (t := 147) (by exact rfl) (by exact rfl) (et (gS rfl g0) rfl) (by decide) (by decide) ?_
                                        refine l_gskip (j := 2) (t := 147) (by exact rfl) (by exact rfl) (et (gS rfl (gS rfl g0)) rfl) (by decide) (by decide) ?_
                                        refine l_step (y_pickT (et (gS rfl (gS rfl (gS rfl g0))) rfl) rfl) ?_
                                        refine l_step (y_moveV (et g0 rfl)) ?_
                                        refine l_gstep (j := 7) (t := 152) (by exact rfl) (by exact rfl) (et g0 rfl) (by decide) (y_moveV (et (gS rfl (gS rfl (gS rfl (gS rfl (gS rfl (gS rfl (gS rfl (gS rfl (gS rfl (gS rfl (gS rfl (gS rfl (gS rfl g0))))))))))))) rfl)) ?_
                                        refine l_gstep (j := 7) (t := 152) (by exact rfl) (by exact rfl) (et (gS rfl g0) rfl) (by decide) (y_moveV (et (gS rfl (gS rfl (gS rfl (gS rfl (gS rfl (gS rfl (gS rfl (gS rfl (gS rfl (gS rfl (gS rfl (gS rfl (gS rfl (gS rfl (gS rfl (gS rfl g0)))))))))))))))) rfl)) ?_
                                        refine l_gstep (j := 7) (t := 152) (by exact rfl) (by exact rfl) (et (gS rfl (gS rfl g0)) rfl) (by decide) (y_moveV (et (gS rfl (gS rfl (gS rfl (gS rfl (gS rfl (gS rfl (gS rfl (gS rfl (gS rfl (gS rfl (gS rfl (gS rfl (gS rfl (gS rfl (gS rfl g0))))))))))))))) rfl)) ?_
                                        refine l_geff (j := 7) (t := 152) (by exact rfl) (by exact rfl) (et (gS rfl (gS rfl (gS rfl g0))) rfl) rfl (e_callV cal_264 (aC (et (gS rfl g0) rfl) (aC (et g0 rfl) (aC (v := .int .i64 ((0 : Nat) : Int)) rfl aN))) (m_arg hX.ex hs hp (by first | exact hpf | rfl) _ (by decide))) (fun v56 w56 h56 => ?_)
                                        obtain ⟨rfl, u56⟩ := h56
                                        replace k52 := k52.up u56
                                        replace hX := hX.up u56
                                        replace U := U.tr u56
                                        replace V37 := V37.tr u56
                                        refine l_geff (j := 7) (t := 152) (by exact rfl) (by exact rfl) (et (gS rfl (gS rfl (gS rfl (gS rfl g0)))) rfl) rfl (e_callV cal_271 (aC (et (gS rfl (gS rfl (gS rfl g0))) rfl) (aC (et g0 rfl) aN)) (m_good hX.ex hs hp rfl _ (argN_lt hB _))) (fun v57 w57 h57 => ?_)
                                        obtain ⟨rfl, u57⟩ := h57
                                        replace k52 := k52.up u57
                                        replace hX := hX.up u57
                                        replace U := U.tr u57
                                        replace V37 := V37.tr u57
                                        refine l_gstep (j := 7) (t := 152) (by exact rfl) (by exact rfl) (et (gS rfl (gS rfl (gS rfl (gS rfl (gS rfl g0))))) rfl) (by decide) (y_not (et g0 rfl)) ?_
                                        refine l_step (y_pickT (et (gS rfl (gS rfl (gS rfl (gS rfl (gS rfl (gS rfl g0)))))) rfl) (et g0 rfl)) ?_
                                        refine l_nil ?_
                                        refine hK54 _ _ ?_
                                        refine fg6 0 7 8 10 11 159 (gS rfl (gS rfl (gS rfl (gS rfl (gS rfl (gS rfl (gS rfl (gS rfl (gS rfl (gS rfl (gS rfl (gS rfl (gS rfl (gS rfl (gS rfl (gS rfl (gS rfl (gS rfl (gS rfl (gS rfl (gS rfl (gS rfl g0)))))))))))))))))))))) (gS rfl (gS rfl (gS rfl (gS rfl (gS rfl (gS rfl (gS rfl (gS rfl (gS rfl (gS rfl (gS rfl (gS rfl (gS rfl (gS rfl (gS rfl (gS rfl (gS rfl (gS rfl (gS rfl (gS rfl g0)))))))))))))))))))) (gS rfl (gS rfl (gS rfl (gS rfl (gS rfl (gS rfl (gS rfl (gS rfl (gS rfl (gS rfl (gS rfl (gS rfl (gS rfl (gS rfl (gS rfl (gS rfl (gS rfl (gS rfl (gS rfl g0))))))))))))))))))) (gS rfl (gS rfl (gS rfl (gS rfl (gS rfl (gS rfl (gS rfl (gS rfl (gS rfl (gS rfl (gS rfl (gS rfl (gS rfl (gS rfl (gS rfl (gS rfl (gS rfl (gS rfl g0)))))))))))))))))) (gS rfl (gS rfl (gS rfl (gS rfl (gS rfl (gS rfl (gS rfl (gS rfl (gS rfl (gS rfl (gS rfl (gS rfl (gS rfl (gS rfl (gS rfl (gS rfl (gS rfl g0))))))))))))))))) g0 (fun g => ?_)
                                        refine c_cond (et g0 rfl) (fun cB11 => ?_) (fun cB11 => ?_)
                                        · skip
                                          
                                          have hds : destN f.code (argN f.stack 0) = false := by simpa using cB11
                                          refine c_seq (fun K59 hK59 => ?_)
                                          exact (by
                                            refine c_region ?_
                                            refine l_step (y_moveV (et (gS rfl (gS rfl (gS rfl (gS rfl (gS rfl g0))))) rfl)) ?_
                                            refine l_eff (e_callV cal_185 (aC (et g0 rfl) (aC (v := .int .u8 ((6 : Nat) : Int)) rfl aN)) (m_fail hX.ex hs hp 6 (by decide) hms hap hpar)) (fun v60 w60 h60 => ?_)
                                            obtain ⟨rfl, hO60⟩ := h60
                                            replace k52 := k52.ch hO60.chc (by intro hm; (have e0 := hm); omega)
                                            replace hX := hX.xo hO60
                                            replace U := U.cc hO60.chc (by intro b hb; exact .inl trivial)
                                            refine l_step (y_assignV (et g0 rfl)) ?_
                                            refine l_nil ?_
                                            refine hK59 _ _ ?_
                                            refine fg1 6 g0 (fun g => ?_)
                                            refine c_ret ?_
                                            repeat with_reducible refine then_ret ?_
                                            refine ret1 rfl (res_tmp (et g0 rfl)) ?_
                                            have eps : psN s f q = 6 := by unfold psN; rw [if_neg hA0, if_neg hA1, if_neg hA2, if_neg hfl, if_neg (by rw [hrb]; decide), ← hcst, if_neg h9, if_pos ⟨by omega, hds⟩]
                                            exact .inl ⟨by rw [eps]; decide, rfl, by rw [eps]; exact hX⟩)
                                        · skip
                                          
                                          have hds : ¬ destN f.code (argN f.stack 0) = false := by simpa using cB11
                                          refine c_skip ?_
                                          refine fK5 0 7 8 10 11 (gS rfl (gS rfl (gS rfl (gS rfl (gS rfl g0))))) (gS rfl (gS rfl (gS rfl (gS rfl g0)))) (gS rfl (gS rfl (gS rfl g0))) (gS rfl (gS rfl g0)) (gS rfl g0) (fun g => ?_)
                                          exact hJ37 _ _ ⟨g, rfl, fun h => hds h.2, V37⟩
                                      · skip
                                        have h86 : q ≠ 86 := by have := of_decide_eq_false q55; omega
                                        refine l_gstep (j := 2) (t := 147) (by exact rfl) (by exact rfl) (et g0 rfl) (by decide) (y_loadB agg_65 sz_65 (et (gS rfl (gS rfl (gS rfl (gS rfl g0)))) rfl) rfl (at1B k52)) ?_
                                        refine l_geff (j := 2) (t := 147) (by exact rfl) (by exact rfl) (et (gS rfl g0) rfl) rfl (e_callV cal_78 (aC (et g0 rfl) aN) (isZero_spec _ _ (argN_lt hB _))) (fun v61 w61 h61 => ?_)
                                        obtain ⟨rfl, u61⟩ := h61
                                        replace k52 := k52.up u61
                                        replace hX := hX.up u61
                                        replace U := U.tr u61
                                        replace V37 := V37.tr u61
                                        refine l_gstep (j := 2) (t := 147) (by exact rfl) (by exact rfl) (et (gS rfl (gS rfl g0)) rfl) (by decide) (y_not (et g0 rfl)) ?_
                                        refine l_step (y_pickF (et (gS rfl (gS rfl (gS rfl g0))) rfl) (et g0 rfl)) ?_
                                        refine l_step (y_moveV (et g0 rfl)) ?_
                                        refine gsplitL (i := 152) g0 (fun q62 => ?_) (fun q62 => ?_)
                                        · skip
                                          have hnz : argN f.stack 1 ≠ 0 := by simpa using q62
                                          refine l_gstep (j := 7) (t := 152) (by exact rfl) (by exact rfl) (et g0 rfl) (by decide) (y_moveV (et (gS rfl (gS rfl (gS rfl (gS rfl (gS rfl (gS rfl (gS rfl (gS rfl (gS rfl (gS rfl (gS rfl (gS rfl (gS rfl (gS rfl g0)))))))))))))) rfl)) ?_
                                          refine l_gstep (j := 7) (t := 152) (by exact rfl) (by exact rfl) (et (gS rfl g0) rfl) (by decide) (y_moveV (et (gS rfl (gS rfl (gS rfl (gS rfl (gS rfl (gS rfl (gS rfl (gS rfl (gS rfl (gS rfl (gS rfl (gS rfl (gS rfl (gS rfl (gS rfl (gS rfl (gS rfl g0))))))))))))))))) rfl)) ?_
                                          refine l_gstep (j := 7) (t := 152) (by exact rfl) (by exact rfl) (et (gS rfl (gS rfl g0)) rfl) (by decide) (y_moveV (et (gS rfl (gS rfl (gS rfl (gS rfl (gS rfl (gS rfl (gS rfl (gS rfl (gS rfl (gS rfl (gS rfl (gS rfl (gS rfl (gS rfl (gS rfl (gS rfl g0)))))))))))))))) rfl)) ?_
                                          refine l_geff (j := 7) (t := 152) (by exact rfl) (by exact rfl) (et (gS rfl (gS rfl (gS rfl g0))) rfl) rfl (e_callV cal_264 (aC (et (gS rfl g0) rfl) (aC (et g0 rfl) (aC (v := .int .i64 ((0 : Nat) : Int)) rfl aN))) (m_arg hX.ex hs hp (by first | exact hpf | rfl) _ (by decide))) (fun v63 w63 h63 => ?_)
                                          obtain ⟨rfl, u63⟩ := h63
                                          replace k52 := k52.up u63
                                          replace hX := hX.up u63
                                          replace U := U.tr u63
                                          replace V37 := V37.tr u63
                                          refine l_geff (j := 7) (t := 152) (by exact rfl) (by exact rfl) (et (gS rfl (gS rfl (gS rfl (gS rfl g0)))) rfl) rfl (e_callV cal_271 (aC (et (gS rfl (gS rfl (gS rfl g0))) rfl) (aC (et g0 rfl) aN)) (m_good hX.ex hs hp rfl _ (argN_lt hB _))) (fun v64 w64 h64 => ?_)
                                          obtain ⟨rfl, u64⟩ := h64
                                          replace k52 := k52.up u64
                                          replace hX := hX.up u64
                                          replace U := U.tr u64
                                          replace V37 := V37.tr u64
                                          refine l_gstep (j := 7) (t := 152) (by exact rfl) (by exact rfl) (et (gS rfl (gS rfl (gS rfl (gS rfl (gS rfl g0))))) rfl) (by decide) (y_not (et g0 rfl)) ?_
                                          refine l_step (y_pickT (et (gS rfl (gS rfl (gS rfl (gS rfl (gS rfl (gS rfl g0)))))) rfl) (et g0 rfl)) ?_
                                          refine l_nil ?_
                                          refine hK54 _ _ ?_
                                          refine fg6 0 7 8 10 11 159 (gS rfl (gS rfl (gS rfl (gS rfl (gS rfl (gS rfl (gS rfl (gS rfl (gS rfl (gS rfl (gS rfl (gS rfl (gS rfl (gS rfl (gS rfl (gS rfl (gS rfl (gS rfl (gS rfl (gS rfl (gS rfl (gS rfl (gS rfl g0))))))))))))))))))))))) (gS rfl (gS rfl (gS rfl (gS rfl (gS rfl (gS rfl (gS rfl (gS rfl (gS rfl (gS rfl (gS rfl (gS rfl (gS rfl (gS rfl (gS rfl (gS rfl (gS rfl (gS rfl (gS rfl (gS rfl (gS rfl g0))))))))))))))))))))) (gS rfl (gS rfl (gS rfl (gS rfl (gS rfl (gS rfl (gS rfl (gS rfl (gS rfl (gS rfl (gS rfl (gS rfl (gS rfl (gS rfl (gS rfl (gS rfl (gS rfl (gS rfl (gS rfl (gS rfl g0)))))))))))))))))))) (gS rfl (gS rfl (gS rfl (gS rfl (gS rfl (gS rfl (gS rfl (gS rfl (gS rfl (gS rfl (gS rfl (gS rfl (gS rfl (gS rfl (gS rfl (gS rfl (gS rfl (gS rfl (gS rfl g0))))))))))))))))))) (gS rfl (gS rfl (gS rfl (gS rfl (gS rfl (gS rfl (gS rfl (gS rfl (gS rfl (gS rfl (gS rfl (gS rfl (gS rfl (gS rfl (gS rfl (gS rfl (gS rfl (gS rfl g0)))))))))))))))))) g0 (fun g => ?_)
                                          refine c_cond (et g0 rfl) (fun cB11 => ?_) (fun cB11 => ?_)
                                          · skip
                                            
                                            have hds : destN f.code (argN f.stack 0) = false := by simpa using cB11
                                            refine c_seq (fun K66 hK66 => ?_)
                                            exact (by
                                              refine c_region ?_
                                              refine l_step (y_moveV (et (gS rfl (gS rfl (gS rfl (gS rfl (gS rfl g0))))) rfl)) ?_
                                              refine l_eff (e_callV cal_185 (aC (et g0 rfl) (aC (v := .int .u8 ((6 : Nat) : Int)) rfl aN)) (m_fail hX.ex hs hp 6 (by decide) hms hap hpar)) (fun v67 w67 h67 => ?_)
                                              obtain ⟨rfl, hO67⟩ := h67
                                              replace k52 := k52.ch hO67.chc (by intro hm; (have e0 := hm); omega)
                                              replace hX := hX.xo hO67
                                              replace U := U.cc hO67.chc (by intro b hb; exact .inl trivial)
                                              refine l_step (y_assignV (et g0 rfl)) ?_
                                              refine l_nil ?_
                                              refine hK66 _ _ ?_
                                              refine fg1 6 g0 (fun g => ?_)
                                              refine c_ret ?_
                                              repeat with_reducible refine then_ret ?_
                                              refine ret1 rfl (res_tmp (et g0 rfl)) ?_
                                              have eps : psN s f q = 6 := by unfold psN; rw [if_neg hA0, if_neg hA1, if_neg hA2, if_neg hfl, if_neg (by rw [hrb]; decide), ← hcst, if_neg h9, if_pos ⟨by omega, hds⟩]
                                              exact .inl ⟨by rw [eps]; decide, rfl, by rw [eps]; exact hX⟩)
                                          · skip
                                            
                                            have hds : ¬ destN f.code (argN f.stack 0) = false := by simpa using cB11
                                            refine c_skip ?_
                                            refine fK5 0 7 8 10 11 (gS rfl (gS rfl (gS rfl (gS rfl (gS rfl g0))))) (gS rfl (gS rfl (gS rfl (gS rfl g0)))) (gS rfl (gS rfl (gS rfl g0))) (gS rfl (gS rfl g0)) (gS rfl g0) (fun g => ?_)
                                            exact hJ37 _ _ ⟨g, rfl, fun h => hds h.2, V37⟩
                                        · skip
                                          have hnz : argN f.stack 1 = 0 := by simpa using q62
                                          refine l_gskip (j := 7) (t := 152) (by exact rfl) (by exact rfl) (et g0 rfl) (by decide) (by decide) ?_
                                          refine l_gskip (j := 7) (t := 152) (by exact rfl) (by exact rfl) (et (gS rfl g0) rfl) (by decide) (by decide) ?_
                                          refine l_gskip (j := 7) (t := 152) (by exact rfl) (by exact rfl) (et (gS rfl (gS rfl g0)) rfl) (by decide) (by decide) ?_
                                          refine l_gskip (j := 7) (t := 152) (by exact rfl) (by exact rfl) (et (gS rfl (gS rfl (gS rfl g0))) rfl) (by decide) (by decide) ?_
                                          refine l_gskip (j := 7) (t := 152) (by exact rfl) (by exact rfl) (et (gS rfl (gS rfl (gS rfl (gS rfl g0)))) rfl) (by decide) (by decide) ?_
                                          refine l_gskip (j := 7) (t := 152) (by exact rfl) (by exact rfl) (et (gS rfl (gS rfl (gS rfl (gS rfl (gS rfl g0))))) rfl) (by decide) (by decide) ?_
                                          refine l_step (y_pickF (et (gS rfl (gS rfl (gS rfl (gS rfl (gS rfl (gS rfl g0)))))) rfl) rfl) ?_
                                          refine l_nil ?_
                                          refine hK54 _ _ ?_
                                          refine fg6 0 7 8 10 11 159 (gS rfl (gS rfl (gS rfl (gS rfl (gS rfl (gS rfl (gS rfl (gS rfl (gS rfl (gS rfl (gS rfl (gS rfl (gS rfl (gS rfl (gS rfl (gS rfl (gS rfl (gS rfl (gS rfl (gS rfl (gS rfl (gS rfl (gS rfl g0))))))))))))))))))))))) (gS rfl (gS rfl (gS rfl (gS rfl (gS rfl (gS rfl (gS rfl (gS rfl (gS rfl (gS rfl (gS rfl (gS rfl (gS rfl (gS rfl (gS rfl (gS rfl (gS rfl (gS rfl (gS rfl (gS rfl (gS rfl g0))))))))))))))))))))) (gS rfl (gS rfl (gS rfl (gS rfl (gS rfl (gS rfl (gS rfl (gS rfl (gS rfl (gS rfl (gS rfl (gS rfl (gS rfl (gS rfl (gS rfl (gS rfl (gS rfl (gS rfl (gS rfl (gS rfl g0)))))))))))))))))))) (gS rfl (gS rfl (gS rfl (gS rfl (gS rfl (gS rfl (gS rfl (gS rfl (gS rfl (gS rfl (gS rfl (gS rfl (gS rfl (gS rfl (gS rfl (gS rfl (gS rfl (gS rfl (gS rfl g0))))))))))))))))))) (gS rfl (gS rfl (gS rfl (gS rfl (gS rfl (gS rfl (gS rfl (gS rfl (gS rfl (gS rfl (gS rfl (gS rfl (gS rfl (gS rfl (gS rfl (gS rfl (gS rfl (gS rfl g0)))))))))))))))))) g0 (fun g => ?_)
                                          refine c_false (et g0 rfl) rfl ?_
                                          refine c_skip ?_
                                          refine fK5 0 7 8 10 11 (gS rfl (gS rfl (gS rfl (gS rfl (gS rfl g0))))) (gS rfl (gS rfl (gS rfl (gS rfl g0)))) (gS rfl (gS rfl (gS rfl g0))) (gS rfl (gS rfl g0)) (gS rfl g0) (fun g => ?_)
                                          exact hJ37 _ _ ⟨g, rfl, fun h => by omega, V37⟩))
                                · skip
                                  
                                  have h10 : ¬ (q = 86 ∨ q = 87) := by simp at cB10; omega
                                  refine c_skip ?_
                                  refine fK5 0 7 8 10 11 (gS rfl (gS rfl (gS rfl (gS rfl (gS rfl (gS rfl g0)))))) (gS rfl (gS rfl (gS rfl (gS rfl g0)))) (gS rfl (gS rfl (gS rfl g0))) (gS rfl (gS rfl g0)) (gS rfl g0) (fun g => ?_)
                                  exact hJ37 _ _ ⟨g, rfl, fun h => h10 (by omega), V37⟩)
                          have V33 : Ch (fun k => False) W31 W31 := Ch.refl _ _
                          exact (by
                            refine c_region ?_
                            refine l_step (y_moveV (et g0 rfl)) ?_
                            refine l_step (y_moveV (et (gS rfl (gS rfl (gS rfl (gS rfl g0)))) rfl)) ?_
                            refine l_step (y_nil (et g0 rfl)) ?_
                            refine l_step (y_fld fld_71_7 (et g0 rfl)) ?_
                            refine l_step (y_load1 one_26 (et g0 rfl) (at1 (hX.ex.vl.c1 (hR.r1 7 _ rfl) (by omega)))) ?_
                            refine l_step (y_gtr (et (gS rfl (gS rfl (gS rfl (gS rfl g0)))) rfl) (et g0 rfl)) ?_
                            refine l_step (y_moveV (et g0 rfl)) ?_
                            refine gsplitL (i := 123) g0 (fun q69 => ?_) (fun q69 => ?_)
                            · skip
                              have h123 : f.gas < cst := by have := of_decide_eq_true q69; omega
                              refine l_gskip (j := 6) (t := 123) (by exact rfl) (by exact rfl) (et g0 rfl) (by decide) (by decide) ?_
                              refine l_gskip (j := 6) (t := 123) (by exact rfl) (by exact rfl) (et (gS rfl g0) rfl) (by decide) (by decide) ?_
                              refine l_gskip (j := 6) (t := 123) (by exact rfl) (by exact rfl) (et (gS rfl (gS rfl g0)) rfl) (by decide) (by decide) ?_
                              refine l_uskip (j := 9) (t := 126) (by exact rfl) (by exact rfl) (et g0 rfl) rfl ?_
                              refine l_uskip (j := 9) (t := 126) (by exact rfl) (by exact rfl) (et (gS rfl g0) rfl) rfl ?_
                              refine l_uskip (j := 9) (t := 126) (by exact rfl) (by exact rfl) (et (gS rfl (gS rfl g0)) rfl) rfl ?_
                              refine l_uskip (j := 9) (t := 126) (by exact rfl) (by exact rfl) (et (gS rfl (gS rfl (gS rfl g0))) rfl) rfl ?_
                              refine l_uskip (j := 9) (t := 126) (by exact rfl) (by exact rfl) (et (gS rfl (gS rfl (gS rfl (gS rfl g0)))) rfl) rfl ?_
                              refine l_gskip (j := 6) (t := 123) (by exact rfl) (by exact rfl) (et (gS rfl (gS rfl (gS rfl (gS rfl (gS rfl (gS rfl (gS rfl (gS rfl g0)))))))) rfl) (by decide) (by decide) ?_
                              refine l_step (y_pickT (et (gS rfl (gS rfl (gS rfl (gS rfl (gS rfl (gS rfl (gS rfl (gS rfl (gS rfl g0))))))))) rfl) rfl) ?_
                              refine l_nil ?_
                              refine fK7 0 1 7 8 10 11 133 (gS rfl (gS rfl (gS rfl (gS rfl (gS rfl (gS rfl (gS rfl (gS rfl (gS rfl (gS rfl (gS rfl (gS rfl (gS rfl (gS rfl (gS rfl (gS rfl (gS rfl (gS rfl (gS rfl (gS rfl (gS rfl (gS rfl (gS rfl g0))))))))))))))))))))))) (gS rfl (gS rfl (gS rfl (gS rfl (gS rfl (gS rfl (gS rfl (gS rfl (gS rfl (gS rfl (gS rfl (gS rfl (gS rfl (gS rfl (gS rfl (gS rfl (gS rfl (gS rfl (gS rfl (gS rfl (gS rfl (gS rfl g0)))))))))))))))))))))) (gS rfl (gS rfl (gS rfl (gS rfl (gS rfl (gS rfl (gS rfl (gS rfl (gS rfl (gS rfl (gS rfl (gS rfl (gS rfl (gS rfl (gS rfl (gS rfl (gS rfl (gS rfl (gS rfl (gS rfl (gS rfl g0))))))))))))))))))))) (gS rfl (gS rfl (gS rfl (gS rfl (gS rfl (gS rfl (gS rfl (gS rfl (gS rfl (gS rfl (gS rfl (gS rfl (gS rfl (gS rfl (gS rfl (gS rfl (gS rfl (gS rfl (gS rfl (gS rfl g0)))))))))))))))))))) (gS rfl (gS rfl (gS rfl (gS rfl (gS rfl (gS rfl (gS rfl (gS rfl (gS rfl (gS rfl (gS rfl (gS rfl (gS rfl (gS rfl (gS rfl (gS rfl (gS rfl (gS rfl (gS rfl g0))))))))))))))))))) (gS rfl (gS rfl (gS rfl (gS rfl (gS rfl (gS rfl (gS rfl (gS rfl (gS rfl (gS rfl (gS rfl (gS rfl (gS rfl (gS rfl (gS rfl (gS rfl (gS rfl (gS rfl g0)))))))))))))))))) g0 (fun g => ?_)
                              exact hJ33 _ _ ⟨g, true, rfl, (decide_eq_true (.inl h123)).symm, V33⟩
                            · skip
                              have h123 : ¬ f.gas < cst := by have := of_decide_eq_false q69; omega
                              refine l_gstep (j := 6) (t := 123) (by exact rfl) (by exact rfl) (et g0 rfl) (by decide) (y_moveV (et (gS rfl (gS rfl (gS rfl (gS rfl (gS rfl (gS rfl (gS rfl (gS rfl (gS rfl (gS rfl (gS rfl (gS rfl g0)))))))))))) rfl)) ?_
                              refine l_gstep (j := 6) (t := 123) (by exact rfl) (by exact rfl) (et (gS rfl g0) rfl) (by decide) (y_eql (et g0 rfl) rfl) ?_
                              refine l_gstep (j := 6) (t := 123) (by exact rfl) (by exact rfl) (et (gS rfl (gS rfl g0)) rfl) (by decide) (y_moveV (et g0 rfl)) ?_
                              refine gsplitL (i := 126) g0 (fun q70 => ?_) (fun q70 => ?_)
                              · skip
                                have h126 : q = 85 := by have := of_decide_eq_true q70; omega
                                refine l_gstep (j := 9) (t := 126) (by exact rfl) (by exact rfl) (et g0 rfl) (by decide) (y_moveV (et (gS rfl (gS rfl (gS rfl (gS rfl (gS rfl (gS rfl (gS rfl (gS rfl (gS rfl (gS rfl (gS rfl (gS rfl (gS rfl (gS rfl (gS rfl g0))))))))))))))) rfl)) ?_
                                refine l_gstep (j := 9) (t := 126) (by exact rfl) (by exact rfl) (et (gS rfl g0) rfl) (by decide) (y_nil (et g0 rfl)) ?_
                                refine l_gstep (j := 9) (t := 126) (by exact rfl) (by exact rfl) (et (gS rfl (gS rfl g0)) rfl) (by decide) (y_fld fld_71_7 (et g0 rfl)) ?_
                                refine l_gstep (j := 9) (t := 126) (by exact rfl) (by exact rfl) (et (gS rfl (gS rfl (gS rfl g0))) rfl) (by decide) (y_load1 one_26 (et g0 rfl) (at1 (hX.ex.vl.c1 (hR.r1 7 _ rfl) (by omega)))) ?_
                                refine l_gstep (j := 9) (t := 126) (by exact rfl) (by exact rfl) (et (gS rfl (gS rfl (gS rfl (gS rfl g0)))) rfl) (by decide) (y_leq (et g0 rfl) rfl) ?_
                                refine l_gstep (j := 6) (t := 123) (by exact rfl) (by exact rfl) (et (gS rfl (gS rfl (gS rfl (gS rfl (gS rfl (gS rfl (gS rfl (gS rfl (gS rfl g0))))))))) rfl) (by decide) (y_pickT (et (gS rfl (gS rfl (gS rfl (gS rfl (gS rfl g0))))) rfl) (et g0 rfl)) ?_
                                refine l_step (y_pickF (et (gS rfl (gS rfl (gS rfl (gS rfl (gS rfl (gS rfl (gS rfl (gS rfl (gS rfl (gS rfl g0)))))))))) rfl) (et g0 rfl)) ?_
                                refine l_nil ?_
                                refine fK7 0 1 7 8 10 11 133 (gS rfl (gS rfl (gS rfl (gS rfl (gS rfl (gS rfl (gS rfl (gS rfl (gS rfl (gS rfl (gS rfl (gS rfl (gS rfl (gS rfl (gS rfl (gS rfl (gS rfl (gS rfl (gS rfl (gS rfl (gS rfl (gS rfl (gS rfl (gS rfl g0)))))))))))))))))))))))) (gS rfl (gS rfl (gS rfl (gS rfl (gS rfl (gS rfl (gS rfl (gS rfl (gS rfl (gS rfl (gS rfl (gS rfl (gS rfl (gS rfl (gS rfl (gS rfl (gS rfl (gS rfl (gS rfl (gS rfl (gS rfl (gS rfl (gS rfl g0))))))))))))))))))))))) (gS rfl (gS rfl (gS rfl (gS rfl (gS rfl (gS rfl (gS rfl (gS rfl (gS rfl (gS rfl (gS rfl (gS rfl (gS rfl (gS rfl (gS rfl (gS rfl (gS rfl (gS rfl (gS rfl (gS rfl (gS rfl (gS rfl g0)))))))))))))))))))))) (gS rfl (gS rfl (gS rfl (gS rfl (gS rfl (gS rfl (gS rfl (gS rfl (gS rfl (gS rfl (gS rfl (gS rfl (gS rfl (gS rfl (gS rfl (gS rfl (gS rfl (gS rfl (gS rfl (gS rfl (gS rfl g0))))))))))))))))))))) (gS rfl (gS rfl (gS rfl (gS rfl (gS rfl (gS rfl (gS rfl (gS rfl (gS rfl (gS rfl (gS rfl (gS rfl (gS rfl (gS rfl (gS rfl (gS rfl (gS rfl (gS rfl (gS rfl (gS rfl g0)))))))))))))))))))) (gS rfl (gS rfl (gS rfl (gS rfl (gS rfl (gS rfl (gS rfl (gS rfl (gS rfl (gS rfl (gS rfl (gS rfl (gS rfl (gS rfl (gS rfl (gS rfl (gS rfl (gS rfl (gS rfl g0))))))))))))))))))) g0 (fun g => ?_)
                                exact hJ33 _ _ ⟨g, _, rfl, by rw [Bool.eq_iff_iff, decide_eq_true_eq, decide_eq_true_eq]; omega, V33⟩
                              · skip
                                have h126 : q ≠ 85 := by have := of_decide_eq_false q70; omega
                                refine l_gskip (j := 9) (t := 126) (by exact rfl) (by exact rfl) (et g0 rfl) (by decide) (by decide) ?_
                                refine l_gskip (j := 9) (t := 126) (by exact rfl) (by exact rfl) (et (gS rfl g0) rfl) (by decide) (by decide) ?_
                                refine l_gskip (j := 9) (t := 126) (by exact rfl) (by exact rfl) (et (gS rfl (gS rfl g0)) rfl) (by decide) (by decide) ?_
                                refine l_gskip (j := 9) (t := 126) (by exact rfl) (by exact rfl) (et (gS rfl (gS rfl (gS rfl g0))) rfl) (by decide) (by decide) ?_
                                refine l_gskip (j := 9) (t := 126) (by exact rfl) (by exact rfl) (et (gS rfl (gS rfl (gS rfl (gS rfl g0)))) rfl) (by decide) (by decide) ?_
                                refine l_gstep (j := 6) (t := 123) (by exact rfl) (by exact rfl) (et (gS rfl (gS rfl (gS rfl (gS rfl (gS rfl (gS rfl (gS rfl (gS rfl (gS rfl g0))))))))) rfl) (by decide) (y_pickF (et (gS rfl (gS rfl (gS rfl (gS rfl (gS rfl g0))))) rfl) rfl) ?_
                                refine l_step (y_pickF (et (gS rfl (gS rfl (gS rfl (gS rfl (gS rfl (gS rfl (gS rfl (gS rfl (gS rfl (gS rfl g0)))))))))) rfl) (et g0 rfl)) ?_
                                refine l_nil ?_
                                refine fK7 0 1 7 8 10 11 133 (gS rfl (gS rfl (gS rfl (gS rfl (gS rfl (gS rfl (gS rfl (gS rfl (gS rfl (gS rfl (gS rfl (gS rfl (gS rfl (gS rfl (gS rfl (gS rfl (gS rfl (gS rfl (gS rfl (gS rfl (gS rfl (gS rfl (gS rfl (gS rfl g0)))))))))))))))))))))))) (gS rfl (gS rfl (gS rfl (gS rfl (gS rfl (gS rfl (gS rfl (gS rfl (gS rfl (gS rfl (gS rfl (gS rfl (gS rfl (gS rfl (gS rfl (gS rfl (gS rfl (gS rfl (gS rfl (gS rfl (gS rfl (gS rfl (gS rfl g0))))))))))))))))))))))) (gS rfl (gS rfl (gS rfl (gS rfl (gS rfl (gS rfl (gS rfl (gS rfl (gS rfl (gS rfl (gS rfl (gS rfl (gS rfl (gS rfl (gS rfl (gS rfl (gS rfl (gS rfl (gS rfl (gS rfl (gS rfl (gS rfl g0)))))))))))))))))))))) (gS rfl (gS rfl (gS rfl (gS rfl (gS rfl (gS rfl (gS rfl (gS rfl (gS rfl (gS rfl (gS rfl (gS rfl (gS rfl (gS rfl (gS rfl (gS rfl (gS rfl (gS rfl (gS rfl (gS rfl (gS rfl g0))))))))))))))))))))) (gS rfl (gS rfl (gS rfl (gS rfl (gS rfl (gS rfl (gS rfl (gS rfl (gS rfl (gS rfl (gS rfl (gS rfl (gS rfl (gS rfl (gS rfl (gS rfl (gS rfl (gS rfl (gS rfl (gS rfl g0)))))))))))))))))))) (gS rfl (gS rfl (gS rfl (gS rfl (gS rfl (gS rfl (gS rfl (gS rfl (gS rfl (gS rfl (gS rfl (gS rfl (gS rfl (gS rfl (gS rfl (gS rfl (gS rfl (gS rfl (gS rfl g0))))))))))))))))))) g0 (fun g => ?_)
                                exact hJ33 _ _ ⟨g, false, rfl, (decide_eq_false (by omega)).symm, V33⟩)
                        have V31 : Ch (fun k => False) w30 w30 := Ch.refl _ _
                        refine c_seq (fun K71 hK71 => ?_)
                        exact (by
                          refine c_region ?_
                          refine l_step (y_moveV (et (gS rfl (gS rfl g0)) rfl)) ?_
                          refine l_step (y_moveV (et (gS rfl (gS rfl g0)) rfl)) ?_
                          refine l_step (y_gtr (et (gS rfl g0) rfl) (et g0 rfl)) ?_
                          refine l_nil ?_
                          refine hK71 _ _ ?_
                          refine fg7 0 1 7 8 10 11 109 (gS rfl (gS rfl (gS rfl (gS rfl (gS rfl (gS rfl (gS rfl (gS rfl g0)))))))) (gS rfl (gS rfl (gS rfl (gS rfl (gS rfl (gS rfl (gS rfl g0))))))) (gS rfl (gS rfl (gS rfl (gS rfl (gS rfl (gS rfl g0)))))) (gS rfl (gS rfl (gS rfl (gS rfl (gS rfl g0))))) (gS rfl (gS rfl (gS rfl (gS rfl g0)))) (gS rfl (gS rfl (gS rfl g0))) g0 (fun g => ?_)
                          refine c_cond (et g0 rfl) (fun cB8 => ?_) (fun cB8 => ?_)
                          · skip
                            
                            have h8 : f.mem.length / 32 < rcN f.stack q := by have := of_decide_eq_true cB8; omega
                            exact (by
                              refine c_region ?_
                              refine l_step (y_moveV (et (gS rfl g0) rfl)) ?_
                              refine l_step (y_moveV (et (gS rfl (gS rfl (gS rfl (gS rfl g0)))) rfl)) ?_
                              refine l_eff (e_callV cal_270 (aC (et g0 rfl) aN) (mach_memCost _ _ (by omega))) (fun v73 w73 h73 => ?_)
                              obtain ⟨rfl, u73⟩ := h73
                              replace hX := hX.up u73
                              replace U := U.tr u73
                              replace V31 := V31.tr u73
                              have hm1 := mem_le9 hrc
                              refine l_step (y_moveV (et (gS rfl (gS rfl (gS rfl (gS rfl (gS rfl g0))))) rfl)) ?_
                              refine l_eff (e_callV cal_270 (aC (et g0 rfl) aN) (mach_memCost _ _ (by omega))) (fun v74 w74 h74 => ?_)
                              obtain ⟨rfl, u74⟩ := h74
                              replace hX := hX.up u74
                              replace U := U.tr u74
                              replace V31 := V31.tr u74
                              have hm2 := mem_mono (Nat.le_of_lt h8)
                              refine l_step (y_sub (et (gS rfl (gS rfl g0)) rfl) (et g0 rfl) (wrapU_subN uk64 ?_ ?_)) ?_
                              exact hm2
                              omega
                              refine l_step (y_add (et (gS rfl (gS rfl (gS rfl (gS rfl (gS rfl g0))))) rfl) (et g0 rfl) (wrapU_addN uk64 ?_)) ?_
                              omega
                              refine l_step (y_assignV (et g0 rfl)) ?_
                              refine l_nil ?_
                              refine fK6 0 1 7 8 10 11 (gS rfl (gS rfl (gS rfl (gS rfl (gS rfl (gS rfl (gS rfl (gS rfl (gS rfl (gS rfl (gS rfl (gS rfl (gS rfl (gS rfl g0)))))))))))))) (gS rfl (gS rfl (gS rfl (gS rfl (gS rfl (gS rfl (gS rfl (gS rfl (gS rfl (gS rfl (gS rfl (gS rfl (gS rfl g0))))))))))))) (gS rfl (gS rfl (gS rfl (gS rfl (gS rfl (gS rfl (gS rfl (gS rfl (gS rfl (gS rfl (gS rfl (gS rfl g0)))))))))))) (gS rfl (gS rfl (gS rfl (gS rfl (gS rfl (gS rfl (gS rfl (gS rfl (gS rfl (gS rfl (gS rfl g0))))))))))) (gS rfl (gS rfl (gS rfl (gS rfl (gS rfl (gS rfl (gS rfl (gS rfl (gS rfl (gS rfl g0)))))))))) g0 (fun g => ?_)
                              exact hJ31 _ _ ⟨g, _, rfl, by rw [pcN, if_neg hfl, if_pos h8], by omega, V31⟩)
                          · skip
                            
                            have h8 : ¬ f.mem.length / 32 < rcN f.stack q := by have := of_decide_eq_false cB8; omega
                            refine c_skip ?_
                            refine fK6 0 1 7 8 10 11 (gS rfl (gS rfl (gS rfl (gS rfl (gS rfl (gS rfl g0)))))) (gS rfl (gS rfl (gS rfl (gS rfl (gS rfl g0))))) (gS rfl (gS rfl (gS rfl (gS rfl g0)))) (gS rfl (gS rfl (gS rfl g0))) (gS rfl (gS rfl g0)) (gS rfl g0) (fun g => ?_)
                            exact hJ31 _ _ ⟨g, _, rfl, by rw [pcN, if_neg hfl, if_neg h8, Nat.add_zero], by omega, V31⟩))))))
        have V7 : Ch (fun k => False) w3 w3 := Ch.refl _ _
        refine c_block (fun Q75 hQ75 => ?_)
        refine c_seq (fun K76 hK76 => ?_)
        exact (by
          refine c_region ?_
          refine l_step (y_moveV (et g0 rfl)) ?_
          refine l_step (y_nil (et g0 rfl)) ?_
          refine l_step (y_fld fld_71_3 (et g0 rfl)) ?_
          refine l_step (y_load1 one_4 (et g0 rfl) (at1 (hX.ex.vl.c1 (hR.r1 3 _ rfl) (by omega)))) ?_
          refine l_step (y_moveV (et g0 rfl)) ?_
          refine gsplitL (i := 24) g0 (fun q77 => ?_) (fun q77 => ?_)
          · skip
            have hst : f.static = true := q77
            refine l_gstep (j := 4) (t := 24) (by exact rfl) (by exact rfl) (et g0 rfl) (by decide) (y_moveV (et (gS rfl (gS rfl (gS rfl (gS rfl (gS rfl (gS rfl (gS rfl g0))))))) rfl)) ?_
            refine l_gstep (j := 4) (t := 24) (by exact rfl) (by exact rfl) (et (gS rfl g0) rfl) (by decide) (y_moveV (et (gS rfl (gS rfl (gS rfl (gS rfl (gS rfl (gS rfl (gS rfl g0))))))) rfl)) ?_
            refine l_gstep (j := 4) (t := 24) (by exact rfl) (by exact rfl) (et (gS rfl (gS rfl g0)) rfl) (by decide) (y_moveV (et (gS rfl (gS rfl (gS rfl (gS rfl (gS rfl (gS rfl (gS rfl (gS rfl (gS rfl (gS rfl g0)))))))))) rfl)) ?_
            refine l_geff (j := 4) (t := 24) (by exact rfl) (by exact rfl) (et (gS rfl (gS rfl (gS rfl g0))) rfl) rfl (e_callV cal_263 (aC (et (gS rfl (gS rfl g0)) rfl) (aC (et (gS rfl g0) rfl) (aC (et g0 rfl) aN))) (m_writes hX.ex hs hp rfl q hq256)) (fun v78 w78 h78 => ?_)
            obtain ⟨rfl, u78⟩ := h78
            replace hX := hX.up u78
            replace U := U.tr u78
            replace V7 := V7.tr u78
            refine l_step (y_pickT (et (gS rfl (gS rfl (gS rfl (gS rfl g0)))) rfl) (et g0 rfl)) ?_
            refine l_step (y_assignV (et g0 rfl)) ?_
            refine l_nil ?_
            refine hK76 _ _ ?_
            refine fg5 2 1 0 7 19 (gS rfl (gS rfl (gS rfl (gS rfl (gS rfl (gS rfl (gS rfl (gS rfl (gS rfl (gS rfl (gS rfl (gS rfl (gS rfl (gS rfl (gS rfl g0))))))))))))))) (gS rfl (gS rfl (gS rfl (gS rfl (gS rfl (gS rfl (gS rfl (gS rfl (gS rfl (gS rfl (gS rfl (gS rfl (gS rfl (gS rfl g0)))))))))))))) (gS rfl (gS rfl (gS rfl (gS rfl (gS rfl (gS rfl (gS rfl (gS rfl (gS rfl (gS rfl (gS rfl (gS rfl (gS rfl g0))))))))))))) (gS rfl (gS rfl (gS rfl (gS rfl (gS rfl (gS rfl (gS rfl (gS rfl (gS rfl (gS rfl (gS rfl (gS rfl g0)))))))))))) g0 (fun g => ?_)
            refine c_cond (et g0 rfl) (fun cB2 => ?_) (fun cB2 => ?_)
            · skip
              
              have hw : wrtN f q = true := cB2
              refine c_seq (fun K80 hK80 => ?_)
              exact (by
                refine c_region ?_
                refine l_step (y_moveV (et (gS rfl (gS rfl g0)) rfl)) ?_
                refine l_eff (e_callV cal_185 (aC (et g0 rfl) (aC (v := .int .u8 ((7 : Nat) : Int)) rfl aN)) (m_fail hX.ex hs hp 7 (by decide) hms hap hpar)) (fun v81 w81 h81 => ?_)
                obtain ⟨rfl, hO81⟩ := h81
                replace hX := hX.xo hO81
                replace U := U.cc hO81.chc (by intro b hb; exact .inl trivial)
                refine l_step (y_assignV (et g0 rfl)) ?_
                refine l_nil ?_
                refine hK80 _ _ ?_
                refine fg1 6 g0 (fun g => ?_)
                refine c_ret ?_
                refine hQ75 _ _ _ (in_ret ?_)
                repeat with_reducible refine then_ret ?_
                refine ret1 rfl (res_tmp (et g0 rfl)) ?_
                have eps : psN s f q = 7 := by unfold psN; rw [if_pos ⟨hst, hw⟩]
                exact .inl ⟨by rw [eps]; decide, rfl, by rw [eps]; exact hX⟩)
            · skip
              
              have hw : ¬ wrtN f q = true := by rw [cB2]; decide
              refine c_seq (fun K82 hK82 => ?_)
              exact (by
                refine c_region ?_
                refine l_step (y_moveV (et (gS rfl (gS rfl (gS rfl g0))) rfl)) ?_
                refine l_step (y_eql (et g0 rfl) rfl) ?_
                refine l_step (y_moveV (et g0 rfl)) ?_
                refine l_gpure (j := 2) (t := 35) (by exact rfl) (by exact rfl) (et g0 rfl) rfl (fun hc => (y_moveV (et (gS rfl (gS rfl (gS rfl (gS rfl (gS rfl (gS rfl g0)))))) rfl))) ?_
                refine l_gpure (j := 2) (t := 35) (by exact rfl) (by exact rfl) (et (gS rfl g0) rfl) rfl (fun hc => (y_eql (et (cT g0 hc) rfl) rfl)) ?_
                refine l_step (y_pickO (et (gS rfl (gS rfl g0)) rfl) rfl (et g0 rfl)) ?_
                refine l_step (y_moveV (et g0 rfl)) ?_
                refine gsplitL (i := 39) g0 (fun q83 => ?_) (fun q83 => ?_)
                · skip
                  have h39 : q = 240 ∨ q = 245 := by have h9 := q83; simp at h9; omega
                  refine l_gstep (j := 6) (t := 39) (by exact rfl) (by exact rfl) (et g0 rfl) (by decide) (y_moveV (et (gS rfl (gS rfl (gS rfl (gS rfl (gS rfl (gS rfl (gS rfl (gS rfl (gS rfl (gS rfl g0)))))))))) rfl)) ?_
                  refine l_gstep (j := 6) (t := 39) (by exact rfl) (by exact rfl) (et (gS rfl g0) rfl) (by decide) (y_moveV (et (gS rfl (gS rfl (gS rfl (gS rfl (gS rfl (gS rfl (gS rfl (gS rfl (gS rfl (gS rfl g0)))))))))) rfl)) ?_
                  refine l_geff (j := 6) (t := 39) (by exact rfl) (by exact rfl) (et (gS rfl (gS rfl g0)) rfl) rfl (e_callV cal_264 (aC (et (gS rfl g0) rfl) (aC (et g0 rfl) (aC (v := .int .i64 ((2 : Nat) : Int)) rfl aN))) (m_arg hX.ex hs hp (by first | exact hpf | rfl) _ (by decide))) (fun v84 w84 h84 => ?_)
                  obtain ⟨rfl, u84⟩ := h84
                  replace hX := hX.up u84
                  replace U := U.tr u84
                  replace V7 := V7.tr u84
                  refine l_gstep (j := 6) (t := 39) (by exact rfl) (by exact rfl) (et (gS rfl (gS rfl (gS rfl g0))) rfl) (by decide) (y_bld (bC rfl bN) (bld65_x 512 (by decide))) ?_
                  refine l_geff (j := 6) (t := 39) (by exact rfl) (by exact rfl) (et (gS rfl (gS rfl (gS rfl (gS rfl g0)))) rfl) rfl (e_callV cal_165 (aC (et (gS rfl g0) rfl) (aC (et g0 rfl) aN)) (gt_spec _ _ _ (argN_lt hB _) (by decide))) (fun v85 w85 h85 => ?_)
                  obtain ⟨rfl, u85⟩ := h85
                  replace hX := hX.up u85
                  replace U := U.tr u85
                  replace V7 := V7.tr u85
                  refine l_step (y_pickT (et (gS rfl (gS rfl (gS rfl (gS rfl (gS rfl g0))))) rfl) (et g0 rfl)) ?_
                  refine l_step (y_assignV (et g0 rfl)) ?_
                  refine l_nil ?_
                  refine hK82 _ _ ?_
                  refine fg5 2 1 0 7 32 (gS rfl (gS rfl (gS rfl (gS rfl (gS rfl (gS rfl (gS rfl (gS rfl (gS rfl (gS rfl (gS rfl (gS rfl (gS rfl (gS rfl (gS rfl (gS rfl (gS rfl (gS rfl (gS rfl g0))))))))))))))))))) (gS rfl (gS rfl (gS rfl (gS rfl (gS rfl (gS rfl (gS rfl (gS rfl (gS rfl (gS rfl (gS rfl (gS rfl (gS rfl (gS rfl (gS rfl (gS rfl (gS rfl (gS rfl g0)))))))))))))))))) (gS rfl (gS rfl (gS rfl (gS rfl (gS rfl (gS rfl (gS rfl (gS rfl (gS rfl (gS rfl (gS rfl (gS rfl (gS rfl (gS rfl (gS rfl (gS rfl (gS rfl g0))))))))))))))))) (gS rfl (gS rfl (gS rfl (gS rfl (gS rfl (gS rfl (gS rfl (gS rfl (gS rfl (gS rfl (gS rfl (gS rfl (gS rfl (gS rfl (gS rfl (gS rfl g0)))))))))))))))) g0 (fun g => ?_)
                  refine c_cond (et g0 rfl) (fun cB3 => ?_) (fun cB3 => ?_)
                  · skip
                    
                    have h3 : 512 < argN f.stack 2 := by have := of_decide_eq_true cB3; omega
                    refine c_seq (fun K87 hK87 => ?_)
                    exact (by
                      refine c_region ?_
                      refine l_step (y_moveV (et (gS rfl (gS rfl g0)) rfl)) ?_
                      refine l_eff (e_callV cal_185 (aC (et g0 rfl) (aC (v := .int .u8 ((9 : Nat) : Int)) rfl aN)) (m_fail hX.ex hs hp 9 (by decide) hms hap hpar)) (fun v88 w88 h88 => ?_)
                      obtain ⟨rfl, hO88⟩ := h88
                      replace hX := hX.xo hO88
                      replace U := U.cc hO88.chc (by intro b hb; exact .inl trivial)
                      refine l_step (y_assignV (et g0 rfl)) ?_
                      refine l_nil ?_
                      refine hK87 _ _ ?_
                      refine fg1 6 g0 (fun g => ?_)
                      refine c_ret ?_
                      refine hQ75 _ _ _ (in_ret ?_)
                      repeat with_reducible refine then_ret ?_
                      refine ret1 rfl (res_tmp (et g0 rfl)) ?_
                      have eps : psN s f q = 9 := by unfold psN; rw [if_neg (fun h => hw h.2), if_pos ⟨h39, h3⟩]
                      exact .inl ⟨by rw [eps]; decide, rfl, by rw [eps]; exact hX⟩)
                  · skip
                    
                    have h3 : ¬ 512 < argN f.stack 2 := by have := of_decide_eq_false cB3; omega
                    refine c_seq (fun K89 hK89 => ?_)
                    exact (by
                      refine c_region ?_
                      refine l_step (y_moveV (et (gS rfl (gS rfl (gS rfl g0))) rfl)) ?_
                      refine l_step (y_eql (et g0 rfl) rfl) ?_
                      refine l_step (y_moveV (et g0 rfl)) ?_
                      refine gsplitL (i := 51) g0 (fun q90 => ?_) (fun q90 => ?_)
                      · skip
                        have h51 : q = 62 := by have := of_decide_eq_true q90; omega
                        refine l_gstep (j := 2) (t := 51) (by exact rfl) (by exact rfl) (et g0 rfl) (by decide) (y_moveV (et (gS rfl (gS rfl (gS rfl (gS rfl (gS rfl (gS rfl g0)))))) rfl)) ?_
                        refine l_gstep (j := 2) (t := 51) (by exact rfl) (by exact rfl) (et (gS rfl g0) rfl) (by decide) (y_moveV (et (gS rfl (gS rfl (gS rfl (gS rfl (gS rfl (gS rfl (gS rfl g0))))))) rfl)) ?_
                        refine l_gstep (j := 2) (t := 51) (by exact rfl) (by exact rfl) (et (gS rfl (gS rfl g0)) rfl) (by decide) (y_moveV (et (gS rfl (gS rfl (gS rfl (gS rfl (gS rfl (gS rfl (gS rfl g0))))))) rfl)) ?_
                        refine l_geff (j := 2) (t := 51) (by exact rfl) (by exact rfl) (et (gS rfl (gS rfl (gS rfl g0))) rfl) rfl (e_callV cal_264 (aC (et (gS rfl g0) rfl) (aC (et g0 rfl) (aC (v := .int .i64 ((1 : Nat) : Int)) rfl aN))) (m_arg hX.ex hs hp (by first | exact hpf | rfl) _ (by decide))) (fun v91 w91 h91 => ?_)
                        obtain ⟨rfl, u91⟩ := h91
                        replace hX := hX.up u91
                        replace U := U.tr u91
                        replace V7 := V7.tr u91
                        refine l_gstep (j := 2) (t := 51) (by exact rfl) (by exact rfl) (et (gS rfl (gS rfl (gS rfl (gS rfl g0)))) rfl) (by decide) (y_moveV (et (gS rfl (gS rfl (gS rfl (gS rfl (gS rfl (gS rfl (gS rfl (gS rfl (gS rfl (gS rfl g0)))))))))) rfl)) ?_
                        refine l_gstep (j := 2) (t := 51) (by exact rfl) (by exact rfl) (et (gS rfl (gS rfl (gS rfl (gS rfl (gS rfl g0))))) rfl) (by decide) (y_moveV (et (gS rfl (gS rfl (gS rfl (gS rfl (gS rfl (gS rfl (gS rfl (gS rfl (gS rfl (gS rfl g0)))))))))) rfl)) ?_
                        refine l_geff (j := 2) (t := 51) (by exact rfl) (by exact rfl) (et (gS rfl (gS rfl (gS rfl (gS rfl (gS rfl (gS rfl g0)))))) rfl) rfl (e_callV cal_264 (aC (et (gS rfl g0) rfl) (aC (et g0 rfl) (aC (v := .int .i64 ((2 : Nat) : Int)) rfl aN))) (m_arg hX.ex hs hp (by first | exact hpf | rfl) _ (by decide))) (fun v92 w92 h92 => ?_)
                        obtain ⟨rfl, u92⟩ := h92
                        replace hX := hX.up u92
                        replace U := U.tr u92
                        replace V7 := V7.tr u92
                        refine l_geff (j := 2) (t := 51) (by exact rfl) (by exact rfl) (et (gS rfl (gS rfl (gS rfl (gS rfl (gS rfl (gS rfl (gS rfl g0))))))) rfl) rfl (e_callV cal_265 (aC (et (gS rfl (gS rfl (gS rfl (gS rfl (gS rfl (gS rfl g0)))))) rfl) (aC (et (gS rfl (gS rfl (gS rfl g0))) rfl) (aC (et g0 rfl) aN))) (m_past hX.ex hs hp _ _ (argN_lt hB _) (argN_lt hB _) hrl)) (fun v93 w93 h93 => ?_)
                        obtain ⟨rfl, u93⟩ := h93
                        replace hX := hX.up u93
                        replace U := U.tr u93
                        replace V7 := V7.tr u93
                        refine l_step (y_pickT (et (gS rfl (gS rfl (gS rfl (gS rfl (gS rfl (gS rfl (gS rfl (gS rfl g0)))))))) rfl) (et g0 rfl)) ?_
                        refine l_step (y_assignV (et g0 rfl)) ?_
                        refine l_nil ?_
                        refine hK89 _ _ ?_
                        refine fg5 2 1 0 7 48 (gS rfl (gS rfl (gS rfl (gS rfl (gS rfl (gS rfl (gS rfl (gS rfl (gS rfl (gS rfl (gS rfl (gS rfl (gS rfl (gS rfl (gS rfl (gS rfl (gS rfl (gS rfl g0)))))))))))))))))) (gS rfl (gS rfl (gS rfl (gS rfl (gS rfl (gS rfl (gS rfl (gS rfl (gS rfl (gS rfl (gS rfl (gS rfl (gS rfl (gS rfl (gS rfl (gS rfl (gS rfl g0))))))))))))))))) (gS rfl (gS rfl (gS rfl (gS rfl (gS rfl (gS rfl (gS rfl (gS rfl (gS rfl (gS rfl (gS rfl (gS rfl (gS rfl (gS rfl (gS rfl (gS rfl g0)))))))))))))))) (gS rfl (gS rfl (gS rfl (gS rfl (gS rfl (gS rfl (gS rfl (gS rfl (gS rfl (gS rfl (gS rfl (gS rfl (gS rfl (gS rfl (gS rfl g0))))))))))))))) g0 (fun g => ?_)
                        refine c_cond (et g0 rfl) (fun cB4 => ?_) (fun cB4 => ?_)
                        · skip
                          
                          have h4 : s.ret.length < argN f.stack 1 + argN f.stack 2 := of_decide_eq_true cB4
                          refine c_seq (fun K95 hK95 => ?_)
                          exact (by
                            refine c_region ?_
                            refine l_step (y_moveV (et (gS rfl (gS rfl g0)) rfl)) ?_
                            refine l_eff (e_callV cal_185 (aC (et g0 rfl) (aC (v := .int .u8 ((8 : Nat) : Int)) rfl aN)) (m_fail hX.ex hs hp 8 (by decide) hms hap hpar)) (fun v96 w96 h96 => ?_)
                            obtain ⟨rfl, hO96⟩ := h96
                            replace hX := hX.xo hO96
                            replace U := U.cc hO96.chc (by intro b hb; exact .inl trivial)
                            refine l_step (y_assignV (et g0 rfl)) ?_
                            refine l_nil ?_
                            refine hK95 _ _ ?_
                            refine fg1 6 g0 (fun g => ?_)
                            refine c_ret ?_
                            refine hQ75 _ _ _ (in_ret ?_)
                            repeat with_reducible refine then_ret ?_
                            refine ret1 rfl (res_tmp (et g0 rfl)) ?_
                            have eps : psN s f q = 8 := by unfold psN; rw [if_neg (fun h => hw h.2), if_neg (fun h => h3 h.2), if_pos ⟨h51, h4⟩]
                            exact .inl ⟨by rw [eps]; decide, rfl, by rw [eps]; exact hX⟩)
                        · skip
                          
                          have h4 : ¬ s.ret.length < argN f.stack 1 + argN f.stack 2 := of_decide_eq_false cB4
                          refine c_skip ?_
                          refine hQ75 _ _ _ (in_normal ?_)
                          refine fK4 0 1 2 7 (gS rfl (gS rfl g0)) (gS rfl (gS rfl (gS rfl g0))) (gS rfl (gS rfl (gS rfl (gS rfl g0)))) (gS rfl g0) (fun g => ?_)
                          exact hJ7 _ _ ⟨g, rfl, fun h => hw h.2, fun h => h3 h.2, fun h => h4 h.2, V7⟩
                      · skip
                        have h51 : q ≠ 62 := by have := of_decide_eq_false q90; omega
                        refine l_gskip (j := 2) (t := 51) (by exact rfl) (by exact rfl) (et g0 rfl) (by decide) (by decide) ?_
                        refine l_gskip (j := 2) (t := 51) (by exact rfl) (by exact rfl) (et (gS rfl g0) rfl) (by decide) (by decide) ?_
                        refine l_gskip (j := 2) (t := 51) (by exact rfl) (by exact rfl) (et (gS rfl (gS rfl g0)) rfl) (by decide) (by decide) ?_
                        refine l_gskip (j := 2) (t := 51) (by exact rfl) (by exact rfl) (et (gS rfl (gS rfl (gS rfl g0))) rfl) (by decide) (by decide) ?_
                        refine l_gskip (j := 2) (t := 51) (by exact rfl) (by exact rfl) (et (gS rfl (gS rfl (gS rfl (gS rfl g0)))) rfl) (by decide) (by decide) ?_
                        refine l_gskip (j := 2) (t := 51) (by exact rfl) (by exact rfl) (et (gS rfl (gS rfl (gS rfl (gS rfl (gS rfl g0))))) rfl) (by decide) (by decide) ?_
                        refine l_gskip (j := 2) (t := 51) (by exact rfl) (by exact rfl) (et (gS rfl (gS rfl (gS rfl (gS rfl (gS rfl (gS rfl g0)))))) rfl) (by decide) (by decide) ?_
                        refine l_gskip (j := 2) (t := 51) (by exact rfl) (by exact rfl) (et (gS rfl (gS rfl (gS rfl (gS rfl (gS rfl (gS rfl (gS rfl g0))))))) rfl) (by decide) (by decide) ?_
                        refine l_step (y_pickF (et (gS rfl (gS rfl (gS rfl (gS rfl (gS rfl (gS rfl (gS rfl (gS rfl g0)))))))) rfl) rfl) ?_
                        refine l_step (y_assignV (et g0 rfl)) ?_
                        refine l_nil ?_
                        refine hK89 _ _ ?_
                        refine fg5 2 1 0 7 48 (gS rfl (gS rfl (gS rfl (gS rfl (gS rfl (gS rfl (gS rfl (gS rfl (gS rfl (gS rfl (gS rfl (gS rfl (gS rfl (gS rfl (gS rfl (gS rfl (gS rfl (gS rfl g0)))))))))))))))))) (gS rfl (gS rfl (gS rfl (gS rfl (gS rfl (gS rfl (gS rfl (gS rfl (gS rfl (gS rfl (gS rfl (gS rfl (gS rfl (gS rfl (gS rfl (gS rfl (gS rfl g0))))))))))))))))) (gS rfl (gS rfl (gS rfl (gS rfl (gS rfl (gS rfl (gS rfl (gS rfl (gS rfl (gS rfl (gS rfl (gS rfl (gS rfl (gS rfl (gS rfl (gS rfl g0)))))))))))))))) (gS rfl (gS rfl (gS rfl (gS rfl (gS rfl (gS rfl (gS rfl (gS rfl (gS rfl (gS rfl (gS rfl (gS rfl (gS rfl (gS rfl (gS rfl g0))))))))))))))) g0 (fun g => ?_)
                        refine c_false (et g0 rfl) rfl ?_
                        refine c_skip ?_
                        refine hQ75 _ _ _ (in_normal ?_)
                        refine fK4 0 1 2 7 (gS rfl (gS rfl g0)) (gS rfl (gS rfl (gS rfl g0))) (gS rfl (gS rfl (gS rfl (gS rfl g0)))) (gS rfl g0) (fun g => ?_)
                        exact hJ7 _ _ ⟨g, rfl, fun h => hw h.2, fun h => h3 h.2, fun h => h51 h.1, V7⟩)
                · skip
                  have h39 : ¬ (q = 240 ∨ q = 245) := by have h9 := q83; simp at h9; omega
                  refine l_gskip (j := 6) (t := 39) (by exact rfl) (by exact rfl) (et g0 rfl) (by decide) (by decide) ?_
                  refine l_gskip (j := 6) (t := 39) (by exact rfl) (by exact rfl) (et (gS rfl g0) rfl) (by decide) (by decide) ?_
                  refine l_gskip (j := 6) (t := 39) (by exact rfl) (by exact rfl) (et (gS rfl (gS rfl g0)) rfl) (by decide) (by decide) ?_
                  refine l_gskip (j := 6) (t := 39) (by exact rfl) (by exact rfl) (et (gS rfl (gS rfl (gS rfl g0))) rfl) (by decide) (by decide) ?_
                  refine l_gskip (j := 6) (t := 39) (by exact rfl) (by exact rfl) (et (gS rfl (gS rfl (gS rfl (gS rfl g0)))) rfl) (by decide) (by decide) ?_
                  refine l_step (y_pickF (et (gS rfl (gS rfl (gS rfl (gS rfl (gS rfl g0))))) rfl) rfl) ?_
                  refine l_step (y_assignV (et g0 rfl)) ?_
                  refine l_nil ?_
                  refine hK82 _ _ ?_
                  refine fg5 2 1 0 7 32 (gS rfl (gS rfl (gS rfl (gS rfl (gS rfl (gS rfl (gS rfl (gS rfl (gS rfl (gS rfl (gS rfl (gS rfl (gS rfl (gS rfl (gS rfl (gS rfl (gS rfl (gS rfl (gS rfl g0))))))))))))))))))) (gS rfl (gS rfl (gS rfl (gS rfl (gS rfl (gS rfl (gS rfl (gS rfl (gS rfl (gS rfl (gS rfl (gS rfl (gS rfl (gS rfl (gS rfl (gS rfl (gS rfl (gS rfl g0)))))))))))))))))) (gS rfl (gS rfl (gS rfl (gS rfl (gS rfl (gS rfl (gS rfl (gS rfl (gS rfl (gS rfl (gS rfl (gS rfl (gS rfl (gS rfl (gS rfl (gS rfl (gS rfl g0))))))))))))))))) (gS rfl (gS rfl (gS rfl (gS rfl (gS rfl (gS rfl (gS rfl (gS rfl (gS rfl (gS rfl (gS rfl (gS rfl (gS rfl (gS rfl (gS rfl (gS rfl g0)))))))))))))))) g0 (fun g => ?_)
                  refine c_false (et g0 rfl) rfl ?_
                  refine c_seq (fun K99 hK99 => ?_)
                  exact (by
                    refine c_region ?_
                    refine l_step (y_moveV (et (gS rfl (gS rfl (gS rfl g0))) rfl)) ?_
                    refine l_step (y_eql (et g0 rfl) rfl) ?_
                    refine l_step (y_moveV (et g0 rfl)) ?_
                    refine gsplitL (i := 51) g0 (fun q100 => ?_) (fun q100 => ?_)
                    · skip
                      have h51 : q = 62 := by have := of_decide_eq_true q100; omega
                      refine l_gstep (j := 2) (t := 51) (by exact rfl) (by exact rfl) (et g0 rfl) (by decide) (y_moveV (et (gS rfl (gS rfl (gS rfl (gS rfl (gS rfl (gS rfl g0)))))) rfl)) ?_
                      refine l_gstep (j := 2) (t := 51) (by exact rfl) (by exact rfl) (et (gS rfl g0) rfl) (by decide) (y_moveV (et (gS rfl (gS rfl (gS rfl (gS rfl (gS rfl (gS rfl (gS rfl g0))))))) rfl)) ?_
                      refine l_gstep (j := 2) (t := 51) (by exact rfl) (by exact rfl) (et (gS rfl (gS rfl g0)) rfl) (by decide) (y_moveV (et (gS rfl (gS rfl (gS rfl (gS rfl (gS rfl (gS rfl (gS rfl g0))))))) rfl)) ?_
                      refine l_geff (j := 2) (t := 51) (by exact rfl) (by exact rfl) (et (gS rfl (gS rfl (gS rfl g0))) rfl) rfl (e_callV cal_264 (aC (et (gS rfl g0) rfl) (aC (et g0 rfl) (aC (v := .int .i64 ((1 : Nat) : Int)) rfl aN))) (m_arg hX.ex hs hp (by first | exact hpf | rfl) _ (by decide))) (fun v101 w101 h101 => ?_)
                      obtain ⟨rfl, u101⟩ := h101
                      replace hX := hX.up u101
                      replace U := U.tr u101
                      replace V7 := V7.tr u101
                      refine l_gstep (j := 2) (t := 51) (by exact rfl) (by exact rfl) (et (gS rfl (gS rfl (gS rfl (gS rfl g0)))) rfl) (by decide) (y_moveV (et (gS rfl (gS rfl (gS rfl (gS rfl (gS rfl (gS rfl (gS rfl (gS rfl (gS rfl (gS rfl g0)))))))))) rfl)) ?_
                      refine l_gstep (j := 2) (t := 51) (by exact rfl) (by exact rfl) (et (gS rfl (gS rfl (gS rfl (gS rfl (gS rfl g0))))) rfl) (by decide) (y_moveV (et (gS rfl (gS rfl (gS rfl (gS rfl (gS rfl (gS rfl (gS rfl (gS rfl (gS rfl (gS rfl g0)))))))))) rfl)) ?_
                      refine l_geff (j := 2) (t := 51) (by exact rfl) (by exact rfl) (et (gS rfl (gS rfl (gS rfl (gS rfl (gS rfl (gS rfl g0)))))) rfl) rfl (e_callV cal_264 (aC (et (gS rfl g0) rfl) (aC (et g0 rfl) (aC (v := .int .i64 ((2 : Nat) : Int)) rfl aN))) (m_arg hX.ex hs hp (by first | exact hpf | rfl) _ (by decide))) (fun v102 w102 h102 => ?_)
                      obtain ⟨rfl, u102⟩ := h102
                      replace hX := hX.up u102
                      replace U := U.tr u102
                      replace V7 := V7.tr u102
                      refine l_geff (j := 2) (t := 51) (by exact rfl) (by exact rfl) (et (gS rfl (gS rfl (gS rfl (gS rfl (gS rfl (gS rfl (gS rfl g0))))))) rfl) rfl (e_callV cal_265 (aC (et (gS rfl (gS rfl (gS rfl (gS rfl (gS rfl (gS rfl g0)))))) rfl) (aC (et (gS rfl (gS rfl (gS rfl g0))) rfl) (aC (et g0 rfl) aN))) (m_past hX.ex hs hp _ _ (argN_lt hB _) (argN_lt hB _) hrl)) (fun v103 w103 h103 => ?_)
                      obtain ⟨rfl, u103⟩ := h103
                      replace hX := hX.up u103
                      replace U := U.tr u103
                      replace V7 := V7.tr u103
                      refine l_step (y_pickT (et (gS rfl (gS rfl (gS rfl (gS rfl (gS rfl (gS rfl (gS rfl (gS rfl g0)))))))) rfl) (et g0 rfl)) ?_
                      refine l_step (y_assignV (et g0 rfl)) ?_
                      refine l_nil ?_
                      refine hK99 _ _ ?_
                      refine fg5 2 1 0 7 48 (gS rfl (gS rfl (gS rfl (gS rfl (gS rfl (gS rfl (gS rfl (gS rfl (gS rfl (gS rfl (gS rfl (gS rfl (gS rfl (gS rfl (gS rfl (gS rfl (gS rfl (gS rfl g0)))))))))))))))))) (gS rfl (gS rfl (gS rfl (gS rfl (gS rfl (gS rfl (gS rfl (gS rfl (gS rfl (gS rfl (gS rfl (gS rfl (gS rfl (gS rfl (gS rfl (gS rfl (gS rfl g0))))))))))))))))) (gS rfl (gS rfl (gS rfl (gS rfl (gS rfl (gS rfl (gS rfl (gS rfl (gS rfl (gS rfl (gS rfl (gS rfl (gS rfl (gS rfl (gS rfl (gS rfl g0)))))))))))))))) (gS rfl (gS rfl (gS rfl (gS rfl (gS rfl (gS rfl (gS rfl (gS rfl (gS rfl (gS rfl (gS rfl (gS rfl (gS rfl (gS rfl (gS rfl g0))))))))))))))) g0 (fun g => ?_)
                      refine c_cond (et g0 rfl) (fun cB4 => ?_) (fun cB4 => ?_)
                      · skip
                        
                        have h4 : s.ret.length < argN f.stack 1 + argN f.stack 2 := of_decide_eq_true cB4
                        refine c_seq (fun K105 hK105 => ?_)
                        exact (by
                          refine c_region ?_
                          refine l_step (y_moveV (et (gS rfl (gS rfl g0)) rfl)) ?_
                          refine l_eff (e_callV cal_185 (aC (et g0 rfl) (aC (v := .int .u8 ((8 : Nat) : Int)) rfl aN)) (m_fail hX.ex hs hp 8 (by decide) hms hap hpar)) (fun v106 w106 h106 => ?_)
                          obtain ⟨rfl, hO106⟩ := h106
                          replace hX := hX.xo hO106
                          replace U := U.cc hO106.chc (by intro b hb; exact .inl trivial)
                          refine l_step (y_assignV (et g0 rfl)) ?_
                          refine l_nil ?_
                          refine hK105 _ _ ?_
                          refine fg1 6 g0 (fun g => ?_)
                          refine c_ret ?_
                          refine hQ75 _ _ _ (in_ret ?_)
                          repeat with_reducible refine then_ret ?_
                          refine ret1 rfl (res_tmp (et g0 rfl)) ?_
                          have eps : psN s f q = 8 := by unfold psN; rw [if_neg (fun h => hw h.2), if_neg (fun h => h39 h.1), if_pos ⟨h51, h4⟩]
                          exact .inl ⟨by rw [eps]; decide, rfl, by rw [eps]; exact hX⟩)
                      · skip
                        
                        have h4 : ¬ s.ret.length < argN f.stack 1 + argN f.stack 2 := of_decide_eq_false cB4
                        refine c_skip ?_
                        refine hQ75 _ _ _ (in_normal ?_)
                        refine fK4 0 1 2 7 (gS rfl (gS rfl g0)) (gS rfl (gS rfl (gS rfl g0))) (gS rfl (gS rfl (gS rfl (gS rfl g0)))) (gS rfl g0) (fun g => ?_)
                        exact hJ7 _ _ ⟨g, rfl, fun h => hw h.2, fun h => h39 h.1, fun h => h4 h.2, V7⟩
                    · skip
                      have h51 : q ≠ 62 := by have := of_decide_eq_false q100; omega
                      refine l_gskip (j := 2) (t := 51) (by exact rfl) (by exact rfl) (et g0 rfl) (by decide) (by decide) ?_
                      refine l_gskip (j := 2) (t := 51) (by exact rfl) (by exact rfl) (et (gS rfl g0) rfl) (by decide) (by decide) ?_
                      refine l_gskip (j := 2) (t := 51) (by exact rfl) (by exact rfl) (et (gS rfl (gS rfl g0)) rfl) (by decide) (by decide) ?_
                      refine l_gskip (j := 2) (t := 51) (by exact rfl) (by exact rfl) (et (gS rfl (gS rfl (gS rfl g0))) rfl) (by decide) (by decide) ?_
                      refine l_gskip (j := 2) (t := 51) (by exact rfl) (by exact rfl) (et (gS rfl (gS rfl (gS rfl (gS rfl g0)))) rfl) (by decide) (by decide) ?_
                      refine l_gskip (j := 2) (t := 51) (by exact rfl) (by exact rfl) (et (gS rfl (gS rfl (gS rfl (gS rfl (gS rfl g0))))) rfl) (by decide) (by decide) ?_
                      refine l_gskip (j := 2) (t := 51) (by exact rfl) (by exact rfl) (et (gS rfl (gS rfl (gS rfl (gS rfl (gS rfl (gS rfl g0)))))) rfl) (by decide) (by decide) ?_
                      refine l_gskip (j := 2) (t := 51) (by exact rfl) (by exact rfl) (et (gS rfl (gS rfl (gS rfl (gS rfl (gS rfl (gS rfl (gS rfl g0))))))) rfl) (by decide) (by decide) ?_
                      refine l_step (y_pickF (et (gS rfl (gS rfl (gS rfl (gS rfl (gS rfl (gS rfl (gS rfl (gS rfl g0)))))))) rfl) rfl) ?_
                      refine l_step (y_assignV (et g0 rfl)) ?_
                      refine l_nil ?_
                      refine hK99 _ _ ?_
                      refine fg5 2 1 0 7 48 (gS rfl (gS rfl (gS rfl (gS rfl (gS rfl (gS rfl (gS rfl (gS rfl (gS rfl (gS rfl (gS rfl (gS rfl (gS rfl (gS rfl (gS rfl (gS rfl (gS rfl (gS rfl g0)))))))))))))))))) (gS rfl (gS rfl (gS rfl (gS rfl (gS rfl (gS rfl (gS rfl (gS rfl (gS rfl (gS rfl (gS rfl (gS rfl (gS rfl (gS rfl (gS rfl (gS rfl (gS rfl g0))))))))))))))))) (gS rfl (gS rfl (gS rfl (gS rfl (gS rfl (gS rfl (gS rfl (gS rfl (gS rfl (gS rfl (gS rfl (gS rfl (gS rfl (gS rfl (gS rfl (gS rfl g0)))))))))))))))) (gS rfl (gS rfl (gS rfl (gS rfl (gS rfl (gS rfl (gS rfl (gS rfl (gS rfl (gS rfl (gS rfl (gS rfl (gS rfl (gS rfl (gS rfl g0))))))))))))))) g0 (fun g => ?_)
                      refine c_false (et g0 rfl) rfl ?_
                      refine c_skip ?_
                      refine hQ75 _ _ _ (in_normal ?_)
                      refine fK4 0 1 2 7 (gS rfl (gS rfl g0)) (gS rfl (gS rfl (gS rfl g0))) (gS rfl (gS rfl (gS rfl (gS rfl g0)))) (gS rfl g0) (fun g => ?_)
                      exact hJ7 _ _ ⟨g, rfl, fun h => hw h.2, fun h => h39 h.1, fun h => h51 h.1, V7⟩))
          · skip
            have hst : ¬ f.static = true := by rw [q77]; decide
            refine l_gskip (j := 4) (t := 24) (by exact rfl) (by exact rfl) (et g0 rfl) (by decide) (by decide) ?_
            refine l_gskip (j := 4) (t := 24) (by exact rfl) (by exact rfl) (et (gS rfl g0) rfl) (by decide) (by decide) ?_
            refine l_gskip (j := 4) (t := 24) (by exact rfl) (by exact rfl) (et (gS rfl (gS rfl g0)) rfl) (by decide) (by decide) ?_
            refine l_gskip (j := 4) (t := 24) (by exact rfl) (by exact rfl) (et (gS rfl (gS rfl (gS rfl g0))) rfl) (by decide) (by decide) ?_
            refine l_step (y_pickF (et (gS rfl (gS rfl (gS rfl (gS rfl g0)))) rfl) rfl) ?_
            refine l_step (y_assignV (et g0 rfl)) ?_
            refine l_nil ?_
            refine hK76 _ _ ?_
            refine fg5 2 1 0 7 19 (gS rfl (gS rfl (gS rfl (gS rfl (gS rfl (gS rfl (gS rfl (gS rfl (gS rfl (gS rfl (gS rfl (gS rfl (gS rfl (gS rfl (gS rfl g0))))))))))))))) (gS rfl (gS rfl (gS rfl (gS rfl (gS rfl (gS rfl (gS rfl (gS rfl (gS rfl (gS rfl (gS rfl (gS rfl (gS rfl (gS rfl g0)))))))))))))) (gS rfl (gS rfl (gS rfl (gS rfl (gS rfl (gS rfl (gS rfl (gS rfl (gS rfl (gS rfl (gS rfl (gS rfl (gS rfl g0))))))))))))) (gS rfl (gS rfl (gS rfl (gS rfl (gS rfl (gS rfl (gS rfl (gS rfl (gS rfl (gS rfl (gS rfl (gS rfl g0)))))))))))) g0 (fun g => ?_)
            refine c_false (et g0 rfl) rfl ?_
            refine c_seq (fun K109 hK109 => ?_)
            exact (by
              refine c_region ?_
              refine l_step (y_moveV (et (gS rfl (gS rfl (gS rfl g0))) rfl)) ?_
              refine l_step (y_eql (et g0 rfl) rfl) ?_
              refine l_step (y_moveV (et g0 rfl)) ?_
              refine l_gpure (j := 2) (t := 35) (by exact rfl) (by exact rfl) (et g0 rfl) rfl (fun hc => (y_moveV (et (gS rfl (gS rfl (gS rfl (gS rfl (gS rfl (gS rfl g0)))))) rfl))) ?_
              refine l_gpure (j := 2) (t := 35) (by exact rfl) (by exact rfl) (et (gS rfl g0) rfl) rfl (fun hc => (y_eql (et (cT g0 hc) rfl) rfl)) ?_
              refine l_step (y_pickO (et (gS rfl (gS rfl g0)) rfl) rfl (et g0 rfl)) ?_
              refine l_step (y_moveV (et g0 rfl)) ?_
              refine gsplitL (i := 39) g0 (fun q110 => ?_) (fun q110 => ?_)
              · skip
                have h39 : q = 240 ∨ q = 245 := by have h9 := q110; simp at h9; omega
                refine l_gstep (j := 6) (t := 39) (by exact rfl) (by exact rfl) (et g0 rfl) (by decide) (y_moveV (et (gS rfl (gS rfl (gS rfl (gS rfl (gS rfl (gS rfl (gS rfl (gS rfl (gS rfl (gS rfl g0)))))))))) rfl)) ?_
                refine l_gstep (j := 6) (t := 39) (by exact rfl) (by exact rfl) (et (gS rfl g0) rfl) (by decide) (y_moveV (et (gS rfl (gS rfl (gS rfl (gS rfl (gS rfl (gS rfl (gS rfl (gS rfl (gS rfl (gS rfl g0)))))))))) rfl)) ?_
                refine l_geff (j := 6) (t := 39) (by exact rfl) (by exact rfl) (et (gS rfl (gS rfl g0)) rfl) rfl (e_callV cal_264 (aC (et (gS rfl g0) rfl) (aC (et g0 rfl) (aC (v := .int .i64 ((2 : Nat) : Int)) rfl aN))) (m_arg hX.ex hs hp (by first | exact hpf | rfl) _ (by decide))) (fun v111 w111 h111 => ?_)
                obtain ⟨rfl, u111⟩ := h111
                replace hX := hX.up u111
                replace U := U.tr u111
                replace V7 := V7.tr u111
                refine l_gstep (j := 6) (t := 39) (by exact rfl) (by exact rfl) (et (gS rfl (gS rfl (gS rfl g0))) rfl) (by decide) (y_bld (bC rfl bN) (bld65_x 512 (by decide))) ?_
                refine l_geff (j := 6) (t := 39) (by exact rfl) (by exact rfl) (et (gS rfl (gS rfl (gS rfl (gS rfl g0)))) rfl) rfl (e_callV cal_165 (aC (et (gS rfl g0) rfl) (aC (et g0 rfl) aN)) (gt_spec _ _ _ (argN_lt hB _) (by decide))) (fun v112 w112 h112 => ?_)
                obtain ⟨rfl, u112⟩ := h112
                replace hX := hX.up u112
                replace U := U.tr u112
                replace V7 := V7.tr u112
                refine l_step (y_pickT (et (gS rfl (gS rfl (gS rfl (gS rfl (gS rfl g0))))) rfl) (et g0 rfl)) ?_
                refine l_step (y_assignV (et g0 rfl)) ?_
                refine l_nil ?_
                refine hK109 _ _ ?_
                refine fg5 2 1 0 7 32 (gS rfl (gS rfl (gS rfl (gS rfl (gS rfl (gS rfl (gS rfl (gS rfl (gS rfl (gS rfl (gS rfl (gS rfl (gS rfl (gS rfl (gS rfl (gS rfl (gS rfl (gS rfl (gS rfl g0))))))))))))))))))) (gS rfl (gS rfl (gS rfl (gS rfl (gS rfl (gS rfl (gS rfl (gS rfl (gS rfl (gS rfl (gS rfl (gS rfl (gS rfl (gS rfl (gS rfl (gS rfl (gS rfl (gS rfl g0)))))))))))))))))) (gS rfl (gS rfl (gS rfl (gS rfl (gS rfl (gS rfl (gS rfl (gS rfl (gS rfl (gS rfl (gS rfl (gS rfl (gS rfl (gS rfl (gS rfl (gS rfl (gS rfl g0))))))))))))))))) (gS rfl (gS rfl (gS rfl (gS rfl (gS rfl (gS rfl (gS rfl (gS rfl (gS rfl (gS rfl (gS rfl (gS rfl (gS rfl (gS rfl (gS rfl (gS rfl g0)))))))))))))))) g0 (fun g => ?_)
                refine c_cond (et g0 rfl) (fun cB3 => ?_) (fun cB3 => ?_)
                · skip
                  
                  have h3 : 512 < argN f.stack 2 := by have := of_decide_eq_true cB3; omega
                  refine c_seq (fun K114 hK114 => ?_)
                  exact (by
                    refine c_region ?_
                    refine l_step (y_moveV (et (gS rfl (gS rfl g0)) rfl)) ?_
                    refine l_eff (e_callV cal_185 (aC (et g0 rfl) (aC (v := .int .u8 ((9 : Nat) : Int)) rfl aN)) (m_fail hX.ex hs hp 9 (by decide) hms hap hpar)) (fun v115 w115 h115 => ?_)
                    obtain ⟨rfl, hO115⟩ := h115
                    replace hX := hX.xo hO115
                    replace U := U.cc hO115.chc (by intro b hb; exact .inl trivial)
                    refine l_step (y_assignV (et g0 rfl)) ?_
                    refine l_nil ?_
                    refine hK114 _ _ ?_
                    refine fg1 6 g0 (fun g => ?_)
                    refine c_ret ?_
                    refine hQ75 _ _ _ (in_ret ?_)
                    repeat with_reducible refine then_ret ?_
                    refine ret1 rfl (res_tmp (et g0 rfl)) ?_
                    have eps : psN s f q = 9 := by unfold psN; rw [if_neg (fun h => hst h.1), if_pos ⟨h39, h3⟩]
                    exact .inl ⟨by rw [eps]; decide, rfl, by rw [eps]; exact hX⟩)
                · skip
                  
                  have h3 : ¬ 512 < argN f.stack 2 := by have := of_decide_eq_false cB3; omega
                  refine c_seq (fun K116 hK116 => ?_)
                  exact (by
                    refine c_region ?_
                    refine l_step (y_moveV (et (gS rfl (gS rfl (gS rfl g0))) rfl)) ?_
                    refine l_step (y_eql (et g0 rfl) rfl) ?_
                    refine l_step (y_moveV (et g0 rfl)) ?_
                    refine gsplitL (i := 51) g0 (fun q117 => ?_) (fun q117 => ?_)
                    · skip
                      have h51 : q = 62 := by have := of_decide_eq_true q117; omega
                      refine l_gstep (j := 2) (t := 51) (by exact rfl) (by exact rfl) (et g0 rfl) (by decide) (y_moveV (et (gS rfl (gS rfl (gS rfl (gS rfl (gS rfl (gS rfl g0)))))) rfl)) ?_
                      refine l_gstep (j := 2) (t := 51) (by exact rfl) (by exact rfl) (et (gS rfl g0) rfl) (by decide) (y_moveV (et (gS rfl (gS rfl (gS rfl (gS rfl (gS rfl (gS rfl (gS rfl g0))))))) rfl)) ?_
                      refine l_gstep (j := 2) (t := 51) (by exact rfl) (by exact rfl) (et (gS rfl (gS rfl g0)) rfl) (by decide) (y_moveV (et (gS rfl (gS rfl (gS rfl (gS rfl (gS rfl (gS rfl (gS rfl g0))))))) rfl)) ?_
                      refine l_geff (j := 2) (t := 51) (by exact rfl) (by exact rfl) (et (gS rfl (gS rfl (gS rfl g0))) rfl) rfl (e_callV cal_264 (aC (et (gS rfl g0) rfl) (aC (et g0 rfl) (aC (v := .int .i64 ((1 : Nat) : Int)) rfl aN))) (m_arg hX.ex hs hp (by first | exact hpf | rfl) _ (by decide))) (fun v118 w118 h118 => ?_)
                      obtain ⟨rfl, u118⟩ := h118
                      replace hX := hX.up u118
                      replace U := U.tr u118
                      replace V7 := V7.tr u118
                      refine l_gstep (j := 2) (t := 51) (by exact rfl) (by exact rfl) (et (gS rfl (gS rfl (gS rfl (gS rfl g0)))) rfl) (by decide) (y_moveV (et (gS rfl (gS rfl (gS rfl (gS rfl (gS rfl (gS rfl (gS rfl (gS rfl (gS rfl (gS rfl g0)))))))))) rfl)) ?_
                      refine l_gstep (j := 2) (t := 51) (by exact rfl) (by exact rfl) (et (gS rfl (gS rfl (gS rfl (gS rfl (gS rfl g0))))) rfl) (by decide) (y_moveV (et (gS rfl (gS rfl (gS rfl (gS rfl (gS rfl (gS rfl (gS rfl (gS rfl (gS rfl (gS rfl g0)))))))))) rfl)) ?_
                      refine l_geff (j := 2) (t := 51) (by exact rfl) (by exact rfl) (et (gS rfl (gS rfl (gS rfl (gS rfl (gS rfl (gS rfl g0)))))) rfl) rfl (e_callV cal_264 (aC (et (gS rfl g0) rfl) (aC (et g0 rfl) (aC (v := .int .i64 ((2 : Nat) : Int)) rfl aN))) (m_arg hX.ex hs hp (by first | exact hpf | rfl) _ (by decide))) (fun v119 w119 h119 => ?_)
                      obtain ⟨rfl, u119⟩ := h119
                      replace hX := hX.up u119
                      replace U := U.tr u119
                      replace V7 := V7.tr u119
                      refine l_geff (j := 2) (t := 51) (by exact rfl) (by exact rfl) (et (gS rfl (gS rfl (gS rfl (gS rfl (gS rfl (gS rfl (gS rfl g0))))))) rfl) rfl (e_callV cal_265 (aC (et (gS rfl (gS rfl (gS rfl (gS rfl (gS rfl (gS rfl g0)))))) rfl) (aC (et (gS rfl (gS rfl (gS rfl g0))) rfl) (aC (et g0 rfl) aN))) (m_past hX.ex hs hp _ _ (argN_lt hB _) (argN_lt hB _) hrl)) (fun v120 w120 h120 => ?_)
                      obtain ⟨rfl, u120⟩ := h120
                      replace hX := hX.up u120
                      replace U := U.tr u120
                      replace V7 := V7.tr u120
                      refine l_step (y_pickT (et (gS rfl (gS rfl (gS rfl (gS rfl (gS rfl (gS rfl (gS rfl (gS rfl g0)))))))) rfl) (et g0 rfl)) ?_
                      refine l_step (y_assignV (et g0 rfl)) ?_
                      refine l_nil ?_
                      refine hK116 _ _ ?_
                      refine fg5 2 1 0 7 48 (gS rfl (gS rfl (gS rfl (gS rfl (gS rfl (gS rfl (gS rfl (gS rfl (gS rfl (gS rfl (gS rfl (gS rfl (gS rfl (gS rfl (gS rfl (gS rfl (gS rfl (gS rfl g0)))))))))))))))))) (gS rfl (gS rfl (gS rfl (gS rfl (gS rfl (gS rfl (gS rfl (gS rfl (gS rfl (gS rfl (gS rfl (gS rfl (gS rfl (gS rfl (gS rfl (gS rfl (gS rfl g0))))))))))))))))) (gS rfl (gS rfl (gS rfl (gS rfl (gS rfl (gS rfl (gS rfl (gS rfl (gS rfl (gS rfl (gS rfl (gS rfl (gS rfl (gS rfl (gS rfl (gS rfl g0)))))))))))))))) (gS rfl (gS rfl (gS rfl (gS rfl (gS rfl (gS rfl (gS rfl (gS rfl (gS rfl (gS rfl (gS rfl (gS rfl (gS rfl (gS rfl (gS rfl g0))))))))))))))) g0 (fun g => ?_)
                      refine c_cond (et g0 rfl) (fun cB4 => ?_) (fun cB4 => ?_)
                      · skip
                        
                        have h4 : s.ret.length < argN f.stack 1 + argN f.stack 2 := of_decide_eq_true cB4
                        refine c_seq (fun K122 hK122 => ?_)
                        exact (by
                          refine c_region ?_
                          refine l_step (y_moveV (et (gS rfl (gS rfl g0)) rfl)) ?_
                          refine l_eff (e_callV cal_185 (aC (et g0 rfl) (aC (v := .int .u8 ((8 : Nat) : Int)) rfl aN)) (m_fail hX.ex hs hp 8 (by decide) hms hap hpar)) (fun v123 w123 h123 => ?_)
                          obtain ⟨rfl, hO123⟩ := h123
                          replace hX := hX.xo hO123
                          replace U := U.cc hO123.chc (by intro b hb; exact .inl trivial)
                          refine l_step (y_assignV (et g0 rfl)) ?_
                          refine l_nil ?_
                          refine hK122 _ _ ?_
                          refine fg1 6 g0 (fun g => ?_)
                          refine c_ret ?_
                          refine hQ75 _ _ _ (in_ret ?_)
                          repeat with_reducible refine then_ret ?_
                          refine ret1 rfl (res_tmp (et g0 rfl)) ?_
                          have eps : psN s f q = 8 := by unfold psN; rw [if_neg (fun h => hst h.1), if_neg (fun h => h3 h.2), if_pos ⟨h51, h4⟩]
                          exact .inl ⟨by rw [eps]; decide, rfl, by rw [eps]; exact hX⟩)
                      · skip
                        
                        have h4 : ¬ s.ret.length < argN f.stack 1 + argN f.stack 2 := of_decide_eq_false cB4
                        refine c_skip ?_
                        refine hQ75 _ _ _ (in_normal ?_)
                        refine fK4 0 1 2 7 (gS rfl (gS rfl g0)) (gS rfl (gS rfl (gS rfl g0))) (gS rfl (gS rfl (gS rfl (gS rfl g0)))) (gS rfl g0) (fun g => ?_)
                        exact hJ7 _ _ ⟨g, rfl, fun h => hst h.1, fun h => h3 h.2, fun h => h4 h.2, V7⟩
                    · skip
                      have h51 : q ≠ 62 := by have := of_decide_eq_false q117; omega
                      refine l_gskip (j := 2) (t := 51) (by exact rfl) (by exact rfl) (et g0 rfl) (by decide) (by decide) ?_
                      refine l_gskip (j := 2) (t := 51) (by exact rfl) (by exact rfl) (et (gS rfl g0) rfl) (by decide) (by decide) ?_
                      refine l_gskip (j := 2) (t := 51) (by exact rfl) (by exact rfl) (et (gS rfl (gS rfl g0)) rfl) (by decide) (by decide) ?_
                      refine l_gskip (j := 2) (t := 51) (by exact rfl) (by exact rfl) (et (gS rfl (gS rfl (gS rfl g0))) rfl) (by decide) (by decide) ?_
                      refine l_gskip (j := 2) (t := 51) (by exact rfl) (by exact rfl) (et (gS rfl (gS rfl (gS rfl (gS rfl g0)))) rfl) (by decide) (by decide) ?_
                      refine l_gskip (j := 2) (t := 51) (by exact rfl) (by exact rfl) (et (gS rfl (gS rfl (gS rfl (gS rfl (gS rfl g0))))) rfl) (by decide) (by decide) ?_
                      refine l_gskip (j := 2) (t := 51) (by exact rfl) (by exact rfl) (et (gS rfl (gS rfl (gS rfl (gS rfl (gS rfl (gS rfl g0)))))) rfl) (by decide) (by decide) ?_
                      refine l_gskip (j := 2) (t := 51) (by exact rfl) (by exact rfl) (et (gS rfl (gS rfl (gS rfl (gS rfl (gS rfl (gS rfl (gS rfl g0))))))) rfl) (by decide) (by decide) ?_
                      refine l_step (y_pickF (et (gS rfl (gS rfl (gS rfl (gS rfl (gS rfl (gS rfl (gS rfl (gS rfl g0)))))))) rfl) rfl) ?_
                      refine l_step (y_assignV (et g0 rfl)) ?_
                      refine l_nil ?_
                      refine hK116 _ _ ?_
                      refine fg5 2 1 0 7 48 (gS rfl (gS rfl (gS rfl (gS rfl (gS rfl (gS rfl (gS rfl (gS rfl (gS rfl (gS rfl (gS rfl (gS rfl (gS rfl (gS rfl (gS rfl (gS rfl (gS rfl (gS rfl g0)))))))))))))))))) (gS rfl (gS rfl (gS rfl (gS rfl (gS rfl (gS rfl (gS rfl (gS rfl (gS rfl (gS rfl (gS rfl (gS rfl (gS rfl (gS rfl (gS rfl (gS rfl (gS rfl g0))))))))))))))))) (gS rfl (gS rfl (gS rfl (gS rfl (gS rfl (gS rfl (gS rfl (gS rfl (gS rfl (gS rfl (gS rfl (gS rfl (gS rfl (gS rfl (gS rfl (gS rfl g0)))))))))))))))) (gS rfl (gS rfl (gS rfl (gS rfl (gS rfl (gS rfl (gS rfl (gS rfl (gS rfl (gS rfl (gS rfl (gS rfl (gS rfl (gS rfl (gS rfl g0))))))))))))))) g0 (fun g => ?_)
                      refine c_false (et g0 rfl) rfl ?_
                      refine c_skip ?_
                      refine hQ75 _ _ _ (in_normal ?_)
                      refine fK4 0 1 2 7 (gS rfl (gS rfl g0)) (gS rfl (gS rfl (gS rfl g0))) (gS rfl (gS rfl (gS rfl (gS rfl g0)))) (gS rfl g0) (fun g => ?_)
                      exact hJ7 _ _ ⟨g, rfl, fun h => hst h.1, fun h => h3 h.2, fun h => h51 h.1, V7⟩)
              · skip
                have h39 : ¬ (q = 240 ∨ q = 245) := by have h9 := q110; simp at h9; omega
                refine l_gskip (j := 6) (t := 39) (by exact rfl) (by exact rfl) (et g0 rfl) (by decide) (by decide) ?_
                refine l_gskip (j := 6) (t := 39) (by exact rfl) (by exact rfl) (et (gS rfl g0) rfl) (by decide) (by decide) ?_
                refine l_gskip (j := 6) (t := 39) (by exact rfl) (by exact rfl) (et (gS rfl (gS rfl g0)) rfl) (by decide) (by decide) ?_
                refine l_gskip (j := 6) (t := 39) (by exact rfl) (by exact rfl) (et (gS rfl (gS rfl (gS rfl g0))) rfl) (by decide) (by decide) ?_
                refine l_gskip (j := 6) (t := 39) (by exact rfl) (by exact rfl) (et (gS rfl (gS rfl (gS rfl (gS rfl g0)))) rfl) (by decide) (by decide) ?_
                refine l_step (y_pickF (et (gS rfl (gS rfl (gS rfl (gS rfl (gS rfl g0))))) rfl) rfl) ?_
                refine l_step (y_assignV (et g0 rfl)) ?_
                refine l_nil ?_
                refine hK109 _ _ ?_
                refine fg5 2 1 0 7 32 (gS rfl (gS rfl (gS rfl (gS rfl (gS rfl (gS rfl (gS rfl (gS rfl (gS rfl (gS rfl (gS rfl (gS rfl (gS rfl (gS rfl (gS rfl (gS rfl (gS rfl (gS rfl (gS rfl g0))))))))))))))))))) (gS rfl (gS rfl (gS rfl (gS rfl (gS rfl (gS rfl (gS rfl (gS rfl (gS rfl (gS rfl (gS rfl (gS rfl (gS rfl (gS rfl (gS rfl (gS rfl (gS rfl (gS rfl g0)))))))))))))))))) (gS rfl (gS rfl (gS rfl (gS rfl (gS rfl (gS rfl (gS rfl (gS rfl (gS rfl (gS rfl (gS rfl (gS rfl (gS rfl (gS rfl (gS rfl (gS rfl (gS rfl g0))))))))))))))))) (gS rfl (gS rfl (gS rfl (gS rfl (gS rfl (gS rfl (gS rfl (gS rfl (gS rfl (gS rfl (gS rfl (gS rfl (gS rfl (gS rfl (gS rfl (gS rfl g0)))))))))))))))) g0 (fun g => ?_)
                refine c_false (et g0 rfl) rfl ?_
                refine c_seq (fun K126 hK126 => ?_)
                exact (by
                  refine c_region ?_
                  refine l_step (y_moveV (et (gS rfl (gS rfl (gS rfl g0))) rfl)) ?_
                  refine l_step (y_eql (et g0 rfl) rfl) ?_
                  refine l_step (y_moveV (et g0 rfl)) ?_
                  refine gsplitL (i := 51) g0 (fun q127 => ?_) (fun q127 => ?_)
                  · skip
                    have h51 : q = 62 := by have := of_decide_eq_true q127; omega
                    refine l_gstep (j := 2) (t := 51) (by exact rfl) (by exact rfl) (et g0 rfl) (by decide) (y_moveV (et (gS rfl (gS rfl (gS rfl (gS rfl (gS rfl (gS rfl g0)))))) rfl)) ?_
                    refine l_gstep (j := 2) (t := 51) (by exact rfl) (by exact rfl) (et (gS rfl g0) rfl) (by decide) (y_moveV (et (gS rfl (gS rfl (gS rfl (gS rfl (gS rfl (gS rfl (gS rfl g0))))))) rfl)) ?_
                    refine l_gstep (j := 2) (t := 51) (by exact rfl) (by exact rfl) (et (gS rfl (gS rfl g0)) rfl) (by decide) (y_moveV (et (gS rfl (gS rfl (gS rfl (gS rfl (gS rfl (gS rfl (gS rfl g0))))))) rfl)) ?_
                    refine l_geff (j := 2) (t := 51) (by exact rfl) (by exact rfl) (et (gS rfl (gS rfl (gS rfl g0))) rfl) rfl (e_callV cal_264 (aC (et (gS rfl g0) rfl) (aC (et g0 rfl) (aC (v := .int .i64 ((1 : Nat) : Int)) rfl aN))) (m_arg hX.ex hs hp (by first | exact hpf | rfl) _ (by decide))) (fun v128 w128 h128 => ?_)
                    obtain ⟨rfl, u128⟩ := h128
                    replace hX := hX.up u128
                    replace U := U.tr u128
                    replace V7 := V7.tr u128
                    refine l_gstep (j := 2) (t := 51) (by exact rfl) (by exact rfl) (et (gS rfl (gS rfl (gS rfl (gS rfl g0)))) rfl) (by decide) (y_moveV (et (gS rfl (gS rfl (gS rfl (gS rfl (gS rfl (gS rfl (gS rfl (gS rfl (gS rfl (gS rfl g0)))))))))) rfl)) ?_
                    refine l_gstep (j := 2) (t := 51) (by exact rfl) (by exact rfl) (et (gS rfl (gS rfl (gS rfl (gS rfl (gS rfl g0))))) rfl) (by decide) (y_moveV (et (gS rfl (gS rfl (gS rfl (gS rfl (gS rfl (gS rfl (gS rfl (gS rfl (gS rfl (gS rfl g0)))))))))) rfl)) ?_
                    refine l_geff (j := 2) (t := 51) (by exact rfl) (by exact rfl) (et (gS rfl (gS rfl (gS rfl (gS rfl (gS rfl (gS rfl g0)))))) rfl) rfl (e_callV cal_264 (aC (et (gS rfl g0) rfl) (aC (et g0 rfl) (aC (v := .int .i64 ((2 : Nat) : Int)) rfl aN))) (m_arg hX.ex hs hp (by first | exact hpf | rfl) _ (by decide))) (fun v129 w129 h129 => ?_)
                    obtain ⟨rfl, u129⟩ := h129
                    replace hX := hX.up u129
                    replace U := U.tr u129
                    replace V7 := V7.tr u129
                    refine l_geff (j := 2) (t := 51) (by exact rfl) (by exact rfl) (et (gS rfl (gS rfl (gS rfl (gS rfl (gS rfl (gS rfl (gS rfl g0))))))) rfl) rfl (e_callV cal_265 (aC (et (gS rfl (gS rfl (gS rfl (gS rfl (gS rfl (gS rfl g0)))))) rfl) (aC (et (gS rfl (gS rfl (gS rfl g0))) rfl) (aC (et g0 rfl) aN))) (m_past hX.ex hs hp _ _ (argN_lt hB _) (argN_lt hB _) hrl)) (fun v130 w130 h130 => ?_)
                    obtain ⟨rfl, u130⟩ := h130
                    replace hX := hX.up u130
                    replace U := U.tr u130
                    replace V7 := V7.tr u130
                    refine l_step (y_pickT (et (gS rfl (gS rfl (gS rfl (gS rfl (gS rfl (gS rfl (gS rfl (gS rfl g0)))))))) rfl) (et g0 rfl)) ?_
                    refine l_step (y_assignV (et g0 rfl)) ?_
                    refine l_nil ?_
                    refine hK126 _ _ ?_
                    refine fg5 2 1 0 7 48 (gS rfl (gS rfl (gS rfl (gS rfl (gS rfl (gS rfl (gS rfl (gS rfl (gS rfl (gS rfl (gS rfl (gS rfl (gS rfl (gS rfl (gS rfl (gS rfl (gS rfl (gS rfl g0)))))))))))))))))) (gS rfl (gS rfl (gS rfl (gS rfl (gS rfl (gS rfl (gS rfl (gS rfl (gS rfl (gS rfl (gS rfl (gS rfl (gS rfl (gS rfl (gS rfl (gS rfl (gS rfl g0))))))))))))))))) (gS rfl (gS rfl (gS rfl (gS rfl (gS rfl (gS rfl (gS rfl (gS rfl (gS rfl (gS rfl (gS rfl (gS rfl (gS rfl (gS rfl (gS rfl (gS rfl g0)))))))))))))))) (gS rfl (gS rfl (gS rfl (gS rfl (gS rfl (gS rfl (gS rfl (gS rfl (gS rfl (gS rfl (gS rfl (gS rfl (gS rfl (gS rfl (gS rfl g0))))))))))))))) g0 (fun g => ?_)
                    refine c_cond (et g0 rfl) (fun cB4 => ?_) (fun cB4 => ?_)
                    · skip
                      
                      have h4 : s.ret.length < argN f.stack 1 + argN f.stack 2 := of_decide_eq_true cB4
                      refine c_seq (fun K132 hK132 => ?_)
                      exact (by
                        refine c_region ?_
                        refine l_step (y_moveV (et (gS rfl (gS rfl g0)) rfl)) ?_
                        refine l_eff (e_callV cal_185 (aC (et g0 rfl) (aC (v := .int .u8 ((8 : Nat) : Int)) rfl aN)) (m_fail hX.ex hs hp 8 (by decide) hms hap hpar)) (fun v133 w133 h133 => ?_)
                        obtain ⟨rfl, hO133⟩ := h133
                        replace hX := hX.xo hO133
                        replace U := U.cc hO133.chc (by intro b hb; exact .inl trivial)
                        refine l_step (y_assignV (et g0 rfl)) ?_
                        refine l_nil ?_
                        refine hK132 _ _ ?_
                        refine fg1 6 g0 (fun g => ?_)
                        refine c_ret ?_
                        refine hQ75 _ _ _ (in_ret ?_)
                        repeat with_reducible refine then_ret ?_
                        refine ret1 rfl (res_tmp (et g0 rfl)) ?_
                        have eps : psN s f q = 8 := by unfold psN; rw [if_neg (fun h => hst h.1), if_neg (fun h => h39 h.1), if_pos ⟨h51, h4⟩]
                        exact .inl ⟨by rw [eps]; decide, rfl, by rw [eps]; exact hX⟩)
                    · skip
                      
                      have h4 : ¬ s.ret.length < argN f.stack 1 + argN f.stack 2 := of_decide_eq_false cB4
                      refine c_skip ?_
                      refine hQ75 _ _ _ (in_normal ?_)
                      refine fK4 0 1 2 7 (gS rfl (gS rfl g0)) (gS rfl (gS rfl (gS rfl g0))) (gS rfl (gS rfl (gS rfl (gS rfl g0)))) (gS rfl g0) (fun g => ?_)
                      exact hJ7 _ _ ⟨g, rfl, fun h => hst h.1, fun h => h39 h.1, fun h => h4 h.2, V7⟩
                  · skip
                    have h51 : q ≠ 62 := by have := of_decide_eq_false q127; omega
                    refine l_gskip (j := 2) (t := 51) (by exact rfl) (by exact rfl) (et g0 rfl) (by decide) (by decide) ?_
                    refine l_gskip (j := 2) (t := 51) (by exact rfl) (by exact rfl) (et (gS rfl g0) rfl) (by decide) (by decide) ?_
                    refine l_gskip (j := 2) (t := 51) (by exact rfl) (by exact rfl) (et (gS rfl (gS rfl g0)) rfl) (by decide) (by decide) ?_
                    refine l_gskip (j := 2) (t := 51) (by exact rfl) (by exact rfl) (et (gS rfl (gS rfl (gS rfl g0))) rfl) (by decide) (by decide) ?_
                    refine l_gskip (j := 2) (t := 51) (by exact rfl) (by exact rfl) (et (gS rfl (gS rfl (gS rfl (gS rfl g0)))) rfl) (by decide) (by decide) ?_
                    refine l_gskip (j := 2) (t := 51) (by exact rfl) (by exact rfl) (et (gS rfl (gS rfl (gS rfl (gS rfl (gS rfl g0))))) rfl) (by decide) (by decide) ?_
                    refine l_gskip (j := 2) (t := 51) (by exact rfl) (by exact rfl) (et (gS rfl (gS rfl (gS rfl (gS rfl (gS rfl (gS rfl g0)))))) rfl) (by decide) (by decide) ?_
                    refine l_gskip (j := 2) (t := 51) (by exact rfl) (by exact rfl) (et (gS rfl (gS rfl (gS rfl (gS rfl (gS rfl (gS rfl (gS rfl g0))))))) rfl) (by decide) (by decide) ?_
                    refine l_step (y_pickF (et (gS rfl (gS rfl (gS rfl (gS rfl (gS rfl (gS rfl (gS rfl (gS rfl g0)))))))) rfl) rfl) ?_
                    refine l_step (y_assignV (et g0 rfl)) ?_
                    refine l_nil ?_
                    refine hK126 _ _ ?_
                    refine fg5 2 1 0 7 48 (gS rfl (gS rfl (gS rfl (gS rfl (gS rfl (gS rfl (gS rfl (gS rfl (gS rfl (gS rfl (gS rfl (gS rfl (gS rfl (gS rfl (gS rfl (gS rfl (gS rfl (gS rfl g0)))))))))))))))))) (gS rfl (gS rfl (gS rfl (gS rfl (gS rfl (gS rfl (gS rfl (gS rfl (gS rfl (gS rfl (gS rfl (gS rfl (gS rfl (gS rfl (gS rfl (gS rfl (gS rfl g0))))))))))))))))) (gS rfl (gS rfl (gS rfl (gS rfl (gS rfl (gS rfl (gS rfl (gS rfl (gS rfl (gS rfl (gS rfl (gS rfl (gS rfl (gS rfl (gS rfl (gS rfl g0)))))))))))))))) (gS rfl (gS rfl (gS rfl (gS rfl (gS rfl (gS rfl (gS rfl (gS rfl (gS rfl (gS rfl (gS rfl (gS rfl (gS rfl (gS rfl (gS rfl g0))))))))))))))) g0 (fun g => ?_)
                    refine c_false (et g0 rfl) rfl ?_
                    refine c_skip ?_
                    refine hQ75 _ _ _ (in_normal ?_)
                    refine fK4 0 1 2 7 (gS rfl (gS rfl g0)) (gS rfl (gS rfl (gS rfl g0))) (gS rfl (gS rfl (gS rfl (gS rfl g0)))) (gS rfl g0) (fun g => ?_)
                    exact hJ7 _ _ ⟨g, rfl, fun h => hst h.1, fun h => h39 h.1, fun h => h51 h.1, V7⟩))))))
end Go.Proofs.YgvaawGreat
