import Derived.Test.YgvaawGreatZ32
set_option maxRecDepth 100000
set_option maxHeartbeats 4000000
set_option linter.unusedSimpArgs false
set_option linter.unusedVariables false
namespace Go.Proofs.YgvaawGreat
open Go
def Par (low : List YF) : Prop := ∀ p, low.getLast? = some p → p.stack.length < 64 ∧ p.pc < 512 ∧ (0 < p.outLen → p.outOff + p.outLen ≤ p.mem.length)
theorem lvY_fr (s : YSt) (x : List YF) (u : YF) (q : Nat) (l : List Nat) (low : List YF) : lvY { s with frames := x } u q l low = lvY s u q l low := by
  unfold lvY
  split <;> rfl
theorem rd_len {m : List Nat} {x y : Nat} (h : y ≠ 0 → x + y ≤ m.length) (hm : m.length ≤ 717280) : (rdN m x y).length ≤ 717280 := by
  unfold rdN
  split
  · exact Nat.zero_le _
  · rename_i h0
    have := h h0
    rw [len_cut]
    omega
theorem nr_len {k : Nat} {l : List Nat} (h : l.length ≤ 717280) : (nrN k l).length ≤ 717280 := by
  unfold nrN
  split
  · exact h
  · split
    · rw [length_be]
      have := lnV_le l 2 (by decide)
      omega
    · exact Nat.zero_le _
section
variable {w0 w w' : World} {H0 H H' : Store} {col0 col col' : Nat → Nat} {bc : Nat} {cs cs' : Array Value} {V V' : EV} {s s' : YSt} {sn : List Nat} {sv : List AW} {ms ms' : List (List Nat)} {c c' : Nat} {low : List YF} {f u : YF}
theorem XO.chc (h : XO w0 H0 col0 w bc s c) : Ch (fun b => col0 b ≠ 0) w0 w := by
  obtain ⟨H, col, cs, V, sn, sv, h⟩ := h
  exact h.et.go.ch
theorem XT.xo (h : XT w0 H0 col0 w H col bc cs V s sn sv ms c) (g : XO w H col w' bc s' c') : XO w0 H0 col0 w' bc s' c' := by
  obtain ⟨H1, col1, cs1, V1, sn1, sv1, g⟩ := g
  exact ⟨H1, col1, cs1, V1, sn1, sv1, h.trans g⟩
theorem XO.up (h : XO w0 H0 col0 w bc s c) (u : Up w w') : XO w0 H0 col0 w' bc s c := by
  obtain ⟨H, col, cs, V, sn, sv, h⟩ := h
  exact ⟨H, col, cs, V, sn, sv, h.up u⟩
theorem XO.re (h : XO w0 H0 col0 w bc s c) (e : s' = s) : XO w0 H0 col0 w bc s' c := e ▸ h
theorem EX.memLe {lo : List (List Nat)} {m : List Nat} (hE : EX w H col bc cs V s sn sv ms c) (hms : ms = lo ++ [m]) : m.length ≤ 717280 := by
  obtain ⟨bm, cm, n, hM⟩ := hE.mx
  exact hM.mx m (by rw [hms]; simp)
theorem EX.selfR (hE : EX w H col bc cs V s sn sv ms c) (hs : s.frames = low ++ [f]) : RowIn cs (1803 + 65 * low.length + 9) (bL (be 20 f.self)) := by
  obtain ⟨n, hn, hR⟩ := hE.topF hs
  exact hR.r2
/-- what stays readable: cell 0 of the chain, a row of it, and nobody's blocks -/
structure SXF (col : Nat → Nat) (bc o : Nat) (vs : List Value) (w0 w' : World) : Prop where
  sx : SX col bc w0 w'
  row : Row w' bc o vs
theorem SXF.refl {o : Nat} {vs : List Value} (h : XT w0 H0 col0 w H col bc cs V s sn sv ms c) (r : RowIn cs o vs) : SXF col bc o vs w w := ⟨SX.refl h, h.ex.vl.kC.row r⟩
theorem SXF.ch {o : Nat} {vs : List Value} (h : SXF col bc o vs w w') : Ch (fun b => col b ≠ 0) w w' := h.sx.ch
theorem SXF.tr {w2 : World} {o : Nat} {vs : List Value} (h : SXF col bc o vs w w') (u : Up w' w2) : SXF col bc o vs w w2 := ⟨h.sx.tr u, h.row.ch u (fun h => h)⟩
theorem SXF.xc {w2 : World} {M : Nat → Prop} {o : Nat} {vs : List Value} (h : SXF col bc o vs w w') (u : Ch M w' w2) (hp : w2.cell? ⟨bc, 0, none⟩ = some (.pointer (some ⟨bc, 2435, none⟩))) (hr : Row w2 bc o vs) (hM : ∀ b, b < w.heap.size → M b → col b ≠ 0) : SXF col bc o vs w w2 := ⟨h.sx.xc u hp hM, hr⟩
theorem toF {o : Nat} {vs : List Value} {P : World → Prop} (h : ∀ w', SX col bc w w' → P w') : ∀ w', SXF col bc o vs w w' → P w' := fun w' e => h w' e.sx
theorem atXFP {o : Nat} {vs : List Value} : ∀ w', SXF col bc o vs w w' → w'.cell? ⟨bc, 0, none⟩ = some (.pointer (some ⟨bc, 2435, none⟩)) := fun _ h => h.sx.pS
theorem atXFR {o : Nat} {vs : List Value} : ∀ w', SXF col bc o vs w w' → Row w' bc o vs := fun _ h => h.row
end
theorem m_fail {w : World} {H : Store} {col : Nat → Nat} {bc : Nat} {cs : Array Value} {V : EV} {s : YSt} {sn : List Nat} {sv : List AW} {ms : List (List Nat)} {c : Nat} {low : List YF} {f : YF} (hE : EX w H col bc cs V s sn sv ms c) (hs : s.frames = low ++ [f]) (hp : s.phase = 1) (q : Nat) (hqq : q < 256) (hms : ms = (low ++ [f]).map (fun g => g.mem)) (hap : s.applied ≤ 4) (hpar : Par low) :
    Ret 185 [.pointer (some ⟨bc, 0, none⟩), .int .u8 (q : Nat)] w (fun v w' => v = .bool false ∧ XO w H col w' bc (lvY s f q [] low) c) := by
  obtain ⟨n9, hn9, hR⟩ := hE.topF hs
  have hB := hE.fbT hs
  have h6 := hE.six hs
  have htop := hE.cTop hs
  have hphs := hE.cPh hp
  have hbp := hB.pc
  have hbs := hB.stk
  have hbg := hB.gas
  have hbc9 := hB.code
  have hnw := hE.vl.new
  have hfz := hE.vl.fz
  have hcC := hE.vl.colC
  have hbc0 := hE.vl.kC.lt
  have hX := XT.refl hE
  refine enter (n := 8) Hvaa.func185 rfl rfl (Nat.le_of_ble_eq_true rfl) ?_
  have U : Ch (fun _ => True) w w := Ch.refl _ w
  refine c_seq (fun K1 hK1 => ?_)
  exact (by
    refine c_region ?_
    refine l_step y_assignC ?_
    refine l_nil ?_
    refine hK1 _ _ ?_
    refine fg2 1 0 (gS rfl (gS rfl g0)) (gS rfl g0) (fun g => ?_)
    refine c_seq (fun K2 hK2 => ?_)
    exact (by
      refine c_region ?_
      refine l_step (y_moveV (et g0 rfl)) ?_
      refine l_step (y_moveV (et (gS rfl (gS rfl g0)) rfl)) ?_
      refine l_eff (e_callV cal_186 (aC (et (gS rfl g0) rfl) (aC (et g0 rfl) (aC rfl aN))) (m_end (oa := none) (oc := 0) (l := []) hX.ex hs hp q hqq (BV.nil _) (Nat.zero_le _) hms hap hpar)) (fun v3 w3 h3 => ?_)
      obtain ⟨rfl, hO3⟩ := h3
      replace hX := hX.xo hO3
      replace U := U.cc hO3.chc (by intro b hb; exact .inl trivial)
      refine l_nil ?_
      refine hK2 _ _ ?_
      refine fg0 (fun g => ?_)
      refine c_seq (fun K4 hK4 => ?_)
      exact (by
        refine c_region ?_
        refine l_step y_assignC ?_
        refine l_nil ?_
        refine hK4 _ _ ?_
        refine c_ret ?_
        repeat with_reducible refine then_ret ?_
        refine ret1 rfl (res_tmp (et g0 rfl)) ?_
        exact ⟨rfl, hX⟩)))
theorem m_opEnd {w : World} {H : Store} {col : Nat → Nat} {bc : Nat} {cs : Array Value} {V : EV} {s : YSt} {sn : List Nat} {sv : List AW} {ms : List (List Nat)} {c : Nat} {low : List YF} {f : YF} (hE : EX w H col bc cs V s sn sv ms c) (hs : s.frames = low ++ [f]) (hp : s.phase = 1) (hms : ms = (low ++ [f]).map (fun g => g.mem)) (hap : s.applied ≤ 4) (hpar : Par low) (hrd : argN f.stack 1 ≠ 0 → argN f.stack 0 + argN f.stack 1 ≤ f.mem.length) :
    Ret 204 [.pointer (some ⟨bc, 0, none⟩)] w (fun v w' => v = .tuple #[] ∧ XO w H col w' bc (if opcN f = 0 then lvY s f 0 [] low else if opcN f = 253 then lvY s f 1 (rdN f.mem (argN f.stack 0) (argN f.stack 1)) low else lvY s f 0 (rdN f.mem (argN f.stack 0) (argN f.stack 1)) low) c) := by
  obtain ⟨n9, hn9, hR⟩ := hE.topF hs
  have hB := hE.fbT hs
  have h6 := hE.six hs
  have htop := hE.cTop hs
  have hphs := hE.cPh hp
  have hbp := hB.pc
  have hbs := hB.stk
  have hbg := hB.gas
  have hbc9 := hB.code
  have hnw := hE.vl.new
  have hfz := hE.vl.fz
  have hcC := hE.vl.colC
  have hbc0 := hE.vl.kC.lt
  have hX := XT.refl hE
  have hms8 : ms = low.map (fun g => g.mem) ++ [f.mem] := by rw [hms]; simp
  have hrl := rd_len hrd (hE.memLe hms8)
  refine enter (n := 39) Hvaa.func204 rfl rfl (Nat.le_of_ble_eq_true rfl) ?_
  have U : Ch (fun _ => True) w w := Ch.refl _ w
  refine c_seq (fun K1 hK1 => ?_)
  exact (by
    refine c_region ?_
    refine l_step (y_moveV (et g0 rfl)) ?_
    refine l_eff (e_callV cal_183 (aC (et g0 rfl) aN) (m_running hX.ex hs hp)) (fun v2 w2 h2 => ?_)
    obtain ⟨rfl, u2⟩ := h2
    replace hX := hX.up u2
    replace U := U.tr u2
    refine l_step (y_assignV (et g0 rfl)) ?_
    refine l_nil ?_
    refine hK1 _ _ ?_
    refine fg2 0 2 (gS rfl (gS rfl (gS rfl g0))) g0 (fun g => ?_)
    refine c_seq (fun K3 hK3 => ?_)
    refine c_seq (fun K4 hK4 => ?_)
    exact (by
      refine c_region ?_
      refine l_step (y_moveV (et g0 rfl)) ?_
      refine l_step (y_eqlNil Hvaa.underlying276 (et g0 rfl) rfl) ?_
      refine l_nil ?_
      refine hK4 _ _ ?_
      refine fg3 0 2 9 (gS rfl (gS rfl (gS rfl g0))) (gS rfl (gS rfl g0)) g0 (fun g => ?_)
      refine c_false (et g0 rfl) rfl ?_
      refine c_skip ?_
      refine hK3 _ _ ?_
      refine fg2 0 2 (gS rfl (gS rfl g0)) (gS rfl g0) (fun g => ?_)
      refine c_seq (fun K6 hK6 => ?_)
      exact (by
        refine c_region ?_
        refine l_step (y_moveV (et (gS rfl g0) rfl)) ?_
        refine l_eff (e_callV cal_108 (aC (et g0 rfl) aN) (m_opcode hX.ex hs hp)) (fun v7 w7 h7 => ?_)
        obtain ⟨rfl, u7⟩ := h7
        replace hX := hX.up u7
        replace U := U.tr u7
        refine l_step (y_assignV (et g0 rfl)) ?_
        refine l_nil ?_
        refine hK6 _ _ ?_
        refine fg3 0 2 3 (gS rfl (gS rfl (gS rfl (gS rfl g0)))) (gS rfl (gS rfl (gS rfl g0))) g0 (fun g => ?_)
        refine c_seq (fun K8 hK8 => ?_)
        refine c_seq (fun K9 hK9 => ?_)
        exact (by
          refine c_region ?_
          refine l_step (y_moveV (et g0 rfl)) ?_
          refine l_step (y_eql (et g0 rfl) rfl) ?_
          refine l_nil ?_
          refine hK9 _ _ ?_
          refine fg4 0 2 3 13 (gS rfl (gS rfl (gS rfl (gS rfl g0)))) (gS rfl (gS rfl (gS rfl g0))) (gS rfl (gS rfl g0)) g0 (fun g => ?_)
          refine c_cond (et g0 rfl) (fun cB2 => ?_) (fun cB2 => ?_)
          · skip
            
            have h0 : opcN f = 0 := by have := of_decide_eq_true cB2; omega
            refine c_seq (fun K11 hK11 => ?_)
            exact (by
              refine c_region ?_
              refine l_step (y_moveV (et (gS rfl (gS rfl (gS rfl g0))) rfl)) ?_
              refine l_eff (e_callV cal_186 (aC (et g0 rfl) (aC (v := .int .u8 ((0 : Nat) : Int)) rfl (aC rfl aN))) (m_end (oa := none) (oc := 0) (l := []) hX.ex hs hp 0 (by decide) (BV.nil _) (Nat.zero_le _) hms hap hpar)) (fun v12 w12 h12 => ?_)
              obtain ⟨rfl, hO12⟩ := h12
              replace hX := hX.xo hO12
              replace U := U.cc hO12.chc (by intro b hb; exact .inl trivial)
              refine l_nil ?_
              refine hK11 _ _ ?_
              refine fg0 (fun g => ?_)
              refine c_ret ?_
              repeat with_reducible refine then_ret ?_
              refine ret0 rfl ?_
              rw [if_pos h0]
              exact ⟨rfl, hX⟩)
          · skip
            
            have h0 : opcN f ≠ 0 := by have := of_decide_eq_false cB2; omega
            refine c_skip ?_
            refine hK8 _ _ ?_
            refine fg3 0 2 3 (gS rfl (gS rfl (gS rfl g0))) (gS rfl (gS rfl g0)) (gS rfl g0) (fun g => ?_)
            refine c_seq (fun K13 hK13 => ?_)
            exact (by
              refine c_region ?_
              refine l_step (y_moveV (et (gS rfl (gS rfl g0)) rfl)) ?_
              refine l_step (y_moveV (et (gS rfl (gS rfl (gS rfl g0))) rfl)) ?_
              refine l_step (y_moveV (et (gS rfl (gS rfl (gS rfl g0))) rfl)) ?_
              refine l_eff (e_callV cal_264 (aC (et (gS rfl g0) rfl) (aC (et g0 rfl) (aC (v := .int .i64 ((0 : Nat) : Int)) rfl aN))) (m_arg hX.ex hs hp (by first | exact hpf | rfl) _ (by decide))) (fun v14 w14 h14 => ?_)
              obtain ⟨rfl, u14⟩ := h14
              replace hX := hX.up u14
              replace U := U.tr u14
              refine l_step (y_moveV (et (gS rfl (gS rfl (gS rfl (gS rfl (gS rfl (gS rfl g0)))))) rfl)) ?_
              refine l_step (y_moveV (et (gS rfl (gS rfl (gS rfl (gS rfl (gS rfl (gS rfl g0)))))) rfl)) ?_
              refine l_eff (e_callV cal_264 (aC (et (gS rfl g0) rfl) (aC (et g0 rfl) (aC (v := .int .i64 ((1 : Nat) : Int)) rfl aN))) (m_arg hX.ex hs hp (by first | exact hpf | rfl) _ (by decide))) (fun v15 w15 h15 => ?_)
              obtain ⟨rfl, u15⟩ := h15
              replace hX := hX.up u15
              replace U := U.tr u15
              refine l_eff (e_callV cal_292 (aC (et (gS rfl (gS rfl (gS rfl (gS rfl (gS rfl (gS rfl g0)))))) rfl) (aC (et (gS rfl (gS rfl (gS rfl g0))) rfl) (aC (et g0 rfl) aN))) (m_read hX.ex hs hp hms8 _ _ (argN_lt hB _) (argN_lt hB _) hrd)) (fun v16 w16 h16 => ?_)
              obtain ⟨H6, vb6, rfl, g6, b6⟩ := h16
              replace hX := hX.gn g6
              replace U := U.cc g6.ch (by intro b hb; exact .inl trivial)
              obtain ⟨ca6, cc6, rfl⟩ := b6.sl
              refine l_step (y_moveV (et g0 rfl)) ?_
              refine l_step (y_ext (et g0 rfl) rfl) ?_
              refine l_step (y_ext (et (gS rfl g0) rfl) rfl) ?_
              refine l_step (y_assignV (et (gS rfl g0) rfl)) ?_
              refine l_step (y_assignV (et (gS rfl g0) rfl)) ?_
              refine l_nil ?_
              refine hK13 _ _ ?_
              refine fg4 0 3 4 5 (gS rfl (gS rfl (gS rfl (gS rfl (gS rfl (gS rfl (gS rfl (gS rfl (gS rfl (gS rfl (gS rfl (gS rfl (gS rfl (gS rfl (gS rfl g0))))))))))))))) (gS rfl (gS rfl (gS rfl (gS rfl (gS rfl (gS rfl (gS rfl (gS rfl (gS rfl (gS rfl (gS rfl (gS rfl (gS rfl g0))))))))))))) (gS rfl g0) g0 (fun g => ?_)
              refine c_seq (fun K17 hK17 => ?_)
              refine c_seq (fun K18 hK18 => ?_)
              exact (by
                refine c_region ?_
                refine l_step (y_moveV (et g0 rfl)) ?_
                refine l_step (y_not (et g0 rfl)) ?_
                refine l_nil ?_
                refine hK18 _ _ ?_
                refine fg4 0 3 4 28 (gS rfl (gS rfl (gS rfl (gS rfl (gS rfl g0))))) (gS rfl (gS rfl (gS rfl (gS rfl g0)))) (gS rfl (gS rfl (gS rfl g0))) g0 (fun g => ?_)
                refine c_false (et g0 rfl) (by rfl) ?_
                refine c_skip ?_
                refine hK17 _ _ ?_
                refine fg3 0 3 4 (gS rfl (gS rfl (gS rfl g0))) (gS rfl (gS rfl g0)) (gS rfl g0) (fun g => ?_)
                refine c_seq (fun K20 hK20 => ?_)
                exact (by
                  refine c_region ?_
                  refine l_step (y_moveV (et (gS rfl g0) rfl)) ?_
                  refine l_step (y_eql (et g0 rfl) rfl) ?_
                  refine l_nil ?_
                  refine hK20 _ _ ?_
                  refine fg3 0 4 32 (gS rfl (gS rfl (gS rfl (gS rfl g0)))) (gS rfl (gS rfl g0)) g0 (fun g => ?_)
                  refine c_cond (et g0 rfl) (fun cB4 => ?_) (fun cB4 => ?_)
                  · skip
                    
                    have h4 : opcN f = 253 := by have := of_decide_eq_true cB4; omega
                    exact (by
                      refine c_region ?_
                      refine l_step (y_moveV (et (gS rfl (gS rfl g0)) rfl)) ?_
                      refine l_step (y_moveV (et (gS rfl (gS rfl g0)) rfl)) ?_
                      refine l_eff (e_callV cal_186 (aC (et (gS rfl g0) rfl) (aC (v := .int .u8 ((1 : Nat) : Int)) rfl (aC (et g0 rfl) aN))) (m_end hX.ex hs hp 1 (by decide) b6 hrl hms hap hpar)) (fun v22 w22 h22 => ?_)
                      obtain ⟨rfl, hO22⟩ := h22
                      replace hX := hX.xo hO22
                      replace U := U.cc hO22.chc (by intro b hb; exact .inl trivial)
                      refine l_nil ?_
                      refine end0 rfl ?_
                      rw [if_neg h0, if_pos h4]
                      exact ⟨rfl, hX⟩)
                  · skip
                    
                    have h4 : opcN f ≠ 253 := by have := of_decide_eq_false cB4; omega
                    refine c_region ?_
                    refine l_step (y_moveV (et (gS rfl (gS rfl g0)) rfl)) ?_
                    refine l_step (y_moveV (et (gS rfl (gS rfl g0)) rfl)) ?_
                    refine l_eff (e_callV cal_186 (aC (et (gS rfl g0) rfl) (aC (v := .int .u8 ((0 : Nat) : Int)) rfl (aC (et g0 rfl) aN))) (m_end hX.ex hs hp 0 (by decide) b6 hrl hms hap hpar)) (fun v23 w23 h23 => ?_)
                    obtain ⟨rfl, hO23⟩ := h23
                    replace hX := hX.xo hO23
                    replace U := U.cc hO23.chc (by intro b hb; exact .inl trivial)
                    refine l_nil ?_
                    refine end0 rfl ?_
                    rw [if_neg h0, if_neg h4]
                    exact ⟨rfl, hX⟩)))))))
theorem m_runNative {w : World} {H : Store} {col : Nat → Nat} {bc : Nat} {cs : Array Value} {V : EV} {s : YSt} {sn : List Nat} {sv : List AW} {ms : List (List Nat)} {c : Nat} {low : List YF} {f : YF} (hE : EX w H col bc cs V s sn sv ms c) (hs : s.frames = low ++ [f]) (hp : s.phase = 1) (hms : ms = (low ++ [f]).map (fun g => g.mem)) (hap : s.applied ≤ 4) (hpar : Par low) (hnat : f.ntv ≠ 0) :
    Ret 107 [.pointer (some ⟨bc, 0, none⟩)] w (fun v w' => v = .bool true ∧ XO w H col w' bc (natY s f low) c) := by
  obtain ⟨n9, hn9, hR⟩ := hE.topF hs
  have hB := hE.fbT hs
  have h6 := hE.six hs
  have htop := hE.cTop hs
  have hphs := hE.cPh hp
  have hbp := hB.pc
  have hbs := hB.stk
  have hbg := hB.gas
  have hbc9 := hB.code
  have hnw := hE.vl.new
  have hfz := hE.vl.fz
  have hcC := hE.vl.colC
  have hbc0 := hE.vl.kC.lt
  have hX := XT.refl hE
  obtain ⟨ca9, cc9, ia9, ic9, hr5, hcode, hinp⟩ := hR.r5
  have hbi9 := hB.input
  have hbn9 := hB.ntv
  refine enter (n := 61) Hvaa.func107 rfl rfl (Nat.le_of_ble_eq_true rfl) ?_
  have U : Ch (fun _ => True) w w := Ch.refl _ w
  refine c_seq (fun K1 hK1 => ?_)
  exact (by
    refine c_region ?_
    refine l_step y_assignC ?_
    refine l_nil ?_
    refine hK1 _ _ ?_
    refine fg1 0 (gS rfl g0) (fun g => ?_)
    refine c_seq (fun K2 hK2 => ?_)
    exact (by
      refine c_region ?_
      refine l_step (y_moveV (et g0 rfl)) ?_
      refine l_eff (e_callV cal_183 (aC (et g0 rfl) aN) (m_running hX.ex hs hp)) (fun v3 w3 h3 => ?_)
      obtain ⟨rfl, u3⟩ := h3
      replace hX := hX.up u3
      replace U := U.tr u3
      refine l_step (y_assignV (et g0 rfl)) ?_
      refine l_nil ?_
      refine hK2 _ _ ?_
      refine fg2 0 3 (gS rfl (gS rfl (gS rfl g0))) g0 (fun g => ?_)
      refine c_seq (fun K4 hK4 => ?_)
      refine c_seq (fun K5 hK5 => ?_)
      exact (by
        refine c_region ?_
        refine l_step (y_moveV (et g0 rfl)) ?_
        refine l_step (y_eqlNil Hvaa.underlying276 (et g0 rfl) rfl) ?_
        refine l_step (y_moveV (et g0 rfl)) ?_
        refine l_gstep (j := 2) (t := 10) (by exact rfl) (by exact rfl) (et g0 rfl) (by decide) (y_moveV (et (gS rfl (gS rfl (gS rfl g0))) rfl)) ?_
        refine l_gstep (j := 2) (t := 10) (by exact rfl) (by exact rfl) (et (gS rfl g0) rfl) (by decide) (y_nil (et g0 rfl)) ?_
        refine l_gstep (j := 2) (t := 10) (by exact rfl) (by exact rfl) (et (gS rfl (gS rfl g0)) rfl) (by decide) (y_fld fld_71_2 (et g0 rfl)) ?_
        refine l_gstep (j := 2) (t := 10) (by exact rfl) (by exact rfl) (et (gS rfl (gS rfl (gS rfl g0))) rfl) (by decide) (y_load1 one_5 (et g0 rfl) (at1 (hX.ex.vl.c1 (hR.r1 2 _ rfl) (by omega)))) ?_
        refine l_gstep (j := 2) (t := 10) (by exact rfl) (by exact rfl) (et (gS rfl (gS rfl (gS rfl (gS rfl g0)))) rfl) (by decide) (y_eql (et g0 rfl) rfl) ?_
        refine l_step (y_pickF (et (gS rfl (gS rfl (gS rfl (gS rfl (gS rfl g0))))) rfl) (et g0 rfl)) ?_
        refine l_nil ?_
        refine hK5 _ _ ?_
        refine fg3 0 3 16 (gS rfl (gS rfl (gS rfl (gS rfl (gS rfl (gS rfl (gS rfl (gS rfl (gS rfl (gS rfl g0)))))))))) (gS rfl (gS rfl (gS rfl (gS rfl (gS rfl (gS rfl (gS rfl (gS rfl (gS rfl g0))))))))) g0 (fun g => ?_)
        refine c_false (et g0 rfl) (by (exact decide_eq_false (by omega))) ?_
        refine c_skip ?_
        refine hK4 _ _ ?_
        refine fg2 0 3 (gS rfl (gS rfl g0)) (gS rfl g0) (fun g => ?_)
        refine c_seq (fun K7 hK7 => ?_)
        exact (by
          refine c_draw Up 14 [(0, true), (1, true), (2, true), (3, true), (4, true), (5, true), (6, true), (7, true), (8, false), (9, true), (10, true), (11, true), (12, true), (13, true)] (by kernel_rfl) (fun w8 hu => ⟨Up.refl _, ?_⟩)
          replace hX := hX.up hu
          replace U := U.tr hu
          have SU := Up.refl w8
          refine p_step (by exact rfl) (y_moveV (et g0 rfl)) ?_
          refine p_step (by exact rfl) (y_nil (et g0 rfl)) ?_
          refine p_step (by exact rfl) (y_fld fld_71_2 (et g0 rfl)) ?_
          refine p_step (by exact rfl) (y_load1 one_5 (et g0 rfl) (atS (hX.ex.vl.c1 (hR.r1 2 _ rfl) (by omega)))) ?_
          refine p_step (by exact rfl) (y_moveV (et (gS rfl (gS rfl (gS rfl (gS rfl g0)))) rfl)) ?_
          refine p_step (by exact rfl) (y_nil (et g0 rfl)) ?_
          refine p_step (by exact rfl) (y_fld fld_71_13 (et g0 rfl)) ?_
          refine p_step (by exact rfl) (y_load1 one_38 (et g0 rfl) (atS (hX.ex.vl.c1 (hr5 1 _ rfl) (by omega)))) ?_
          refine p_eff (by exact rfl) (e_callV cal_184 (aC (et (gS rfl (gS rfl (gS rfl (gS rfl g0)))) rfl) (aC (et g0 rfl) aN)) (m_nativeCost _ (hinp.wv hX.ex.vl.fz) (Nat.le_refl _) hbi9 f.ntv (by omega))) (fun v9 w9 h9 => ?_)
          obtain ⟨rfl, u9⟩ := h9
          replace hX := hX.up u9
          replace U := U.tr u9
          refine ⟨.inr (SU.tr u9), ?_⟩
          replace SU := SU.tr u9
          refine p_step (by exact rfl) (y_moveV (et g0 rfl)) ?_
          refine p_step (by exact rfl) (y_ext (et g0 rfl) rfl) ?_
          refine p_step (by exact rfl) (y_ext (et (gS rfl g0) rfl) rfl) ?_
          refine p_step (by exact rfl) (y_assignV (et (gS rfl g0) rfl)) ?_
          refine p_step (by exact rfl) (y_assignV (et (gS rfl g0) rfl)) ?_
          refine p_nil ?_
          refine hK7 _ _ ?_
          refine fg4 0 3 4 5 (gS rfl (gS rfl (gS rfl (gS rfl (gS rfl (gS rfl (gS rfl (gS rfl (gS rfl (gS rfl (gS rfl (gS rfl (gS rfl (gS rfl (gS rfl g0))))))))))))))) (gS rfl (gS rfl (gS rfl (gS rfl (gS rfl (gS rfl (gS rfl (gS rfl (gS rfl (gS rfl (gS rfl (gS rfl (gS rfl (gS rfl g0)))))))))))))) (gS rfl g0) g0 (fun g => ?_)
          refine c_seq (fun K10 hK10 => ?_)
          refine c_seq (fun K11 hK11 => ?_)
          exact (by
            refine c_region ?_
            refine l_step (y_moveV (et g0 rfl)) ?_
            refine l_step (y_not (et g0 rfl)) ?_
            refine l_step (y_moveV (et g0 rfl)) ?_
            refine gsplitL (i := 31) g0 (fun q12 => ?_) (fun q12 => ?_)
            · skip
              have hno : ncOk f.ntv f.input = false := by simpa using q12
              refine l_gskip (j := 2) (t := 31) (by exact rfl) (by exact rfl) (et g0 rfl) (by decide) (by decide) ?_
              refine l_gskip (j := 2) (t := 31) (by exact rfl) (by exact rfl) (et (gS rfl g0) rfl) (by decide) (by decide) ?_
              refine l_gskip (j := 2) (t := 31) (by exact rfl) (by exact rfl) (et (gS rfl (gS rfl g0)) rfl) (by decide) (by decide) ?_
              refine l_gskip (j := 2) (t := 31) (by exact rfl) (by exact rfl) (et (gS rfl (gS rfl (gS rfl g0))) rfl) (by decide) (by decide) ?_
              refine l_gskip (j := 2) (t := 31) (by exact rfl) (by exact rfl) (et (gS rfl (gS rfl (gS rfl (gS rfl g0)))) rfl) (by decide) (by decide) ?_
              refine l_gskip (j := 2) (t := 31) (by exact rfl) (by exact rfl) (et (gS rfl (gS rfl (gS rfl (gS rfl (gS rfl g0))))) rfl) (by decide) (by decide) ?_
              refine l_step (y_pickT (et (gS rfl (gS rfl (gS rfl (gS rfl (gS rfl (gS rfl g0)))))) rfl) rfl) ?_
              refine l_nil ?_
              refine hK11 _ _ ?_
              refine fg4 0 3 4 38 (gS rfl (gS rfl (gS rfl (gS rfl (gS rfl (gS rfl (gS rfl (gS rfl (gS rfl (gS rfl (gS rfl (gS rfl (gS rfl (gS rfl g0)))))))))))))) (gS rfl (gS rfl (gS rfl (gS rfl (gS rfl (gS rfl (gS rfl (gS rfl (gS rfl (gS rfl (gS rfl (gS rfl (gS rfl g0))))))))))))) (gS rfl (gS rfl (gS rfl (gS rfl (gS rfl (gS rfl (gS rfl (gS rfl (gS rfl (gS rfl (gS rfl (gS rfl g0)))))))))))) g0 (fun g => ?_)
              refine c_true (et g0 rfl) rfl ?_
              refine c_seq (fun K14 hK14 => ?_)
              exact (by
                refine c_region ?_
                refine l_step (y_moveV (et (gS rfl (gS rfl (gS rfl g0))) rfl)) ?_
                refine l_eff (e_callV cal_185 (aC (et g0 rfl) (aC (v := .int .u8 ((2 : Nat) : Int)) rfl aN)) (m_fail hX.ex hs hp 2 (by decide) hms hap hpar)) (fun v15 w15 h15 => ?_)
                obtain ⟨rfl, hO15⟩ := h15
                replace hX := hX.xo hO15
                replace U := U.cc hO15.chc (by intro b hb; exact .inl trivial)
                refine l_step (y_not (et g0 rfl)) ?_
                refine l_step (y_assignV (et g0 rfl)) ?_
                refine l_nil ?_
                refine hK14 _ _ ?_
                refine fg1 2 g0 (fun g => ?_)
                refine c_ret ?_
                repeat with_reducible refine then_ret ?_
                refine ret1 rfl (res_tmp (et g0 rfl)) ?_
                have e9 : natY s f low = lvY s f 2 [] low := if_neg (by rw [hno]; exact fun h => by cases h.1)
                rw [e9]
                exact ⟨rfl, hX⟩)
            · skip
              have hno : ncOk f.ntv f.input = true := by simpa using q12
              refine l_gstep (j := 2) (t := 31) (by exact rfl) (by exact rfl) (et g0 rfl) (by decide) (y_moveV (et (gS rfl (gS rfl (gS rfl (gS rfl (gS rfl g0))))) rfl)) ?_
              refine l_gstep (j := 2) (t := 31) (by exact rfl) (by exact rfl) (et (gS rfl g0) rfl) (by decide) (y_moveV (et (gS rfl (gS rfl (gS rfl (gS rfl (gS rfl (gS rfl (gS rfl g0))))))) rfl)) ?_
              refine l_gstep (j := 2) (t := 31) (by exact rfl) (by exact rfl) (et (gS rfl (gS rfl g0)) rfl) (by decide) (y_nil (et g0 rfl)) ?_
              refine l_gstep (j := 2) (t := 31) (by exact rfl) (by exact rfl) (et (gS rfl (gS rfl (gS rfl g0))) rfl) (by decide) (y_fld fld_71_7 (et g0 rfl)) ?_
              refine l_gstep (j := 2) (t := 31) (by exact rfl) (by exact rfl) (et (gS rfl (gS rfl (gS rfl (gS rfl g0)))) rfl) (by decide) (y_load1 one_26 (et g0 rfl) (at1 (hX.ex.vl.c1 (hR.r1 7 _ rfl) (by omega)))) ?_
              refine l_gstep (j := 2) (t := 31) (by exact rfl) (by exact rfl) (et (gS rfl (gS rfl (gS rfl (gS rfl (gS rfl g0))))) rfl) (by decide) (y_gtr (et (gS rfl (gS rfl (gS rfl (gS rfl g0)))) rfl) (et g0 rfl)) ?_
              refine l_step (y_pickF (et (gS rfl (gS rfl (gS rfl (gS rfl (gS rfl (gS rfl g0)))))) rfl) (et g0 rfl)) ?_
              refine l_nil ?_
              refine hK11 _ _ ?_
              refine fg4 0 3 4 38 (gS rfl (gS rfl (gS rfl (gS rfl (gS rfl (gS rfl (gS rfl (gS rfl (gS rfl (gS rfl (gS rfl (gS rfl (gS rfl (gS rfl g0)))))))))))))) (gS rfl (gS rfl (gS rfl (gS rfl (gS rfl (gS rfl (gS rfl (gS rfl (gS rfl (gS rfl (gS rfl (gS rfl (gS rfl g0))))))))))))) (gS rfl (gS rfl (gS rfl (gS rfl (gS rfl (gS rfl (gS rfl (gS rfl (gS rfl (gS rfl (gS rfl (gS rfl g0)))))))))))) g0 (fun g => ?_)
              refine c_cond (et g0 rfl) (fun cB2 => ?_) (fun cB2 => ?_)
              · skip
                
                have hgs : ¬ ncN f.ntv f.input ≤ f.gas := by have := of_decide_eq_true cB2; omega
                refine c_seq (fun K17 hK17 => ?_)
                exact (by
                  refine c_region ?_
                  refine l_step (y_moveV (et (gS rfl (gS rfl (gS rfl g0))) rfl)) ?_
                  refine l_eff (e_callV cal_185 (aC (et g0 rfl) (aC (v := .int .u8 ((2 : Nat) : Int)) rfl aN)) (m_fail hX.ex hs hp 2 (by decide) hms hap hpar)) (fun v18 w18 h18 => ?_)
                  obtain ⟨rfl, hO18⟩ := h18
                  replace hX := hX.xo hO18
                  replace U := U.cc hO18.chc (by intro b hb; exact .inl trivial)
                  refine l_step (y_not (et g0 rfl)) ?_
                  refine l_step (y_assignV (et g0 rfl)) ?_
                  refine l_nil ?_
                  refine hK17 _ _ ?_
                  refine fg1 2 g0 (fun g => ?_)
                  refine c_ret ?_
                  repeat with_reducible refine then_ret ?_
                  refine ret1 rfl (res_tmp (et g0 rfl)) ?_
                  have e9 : natY s f low = lvY s f 2 [] low := if_neg (by exact fun h => hgs h.2)
                  rw [e9]
                  exact ⟨rfl, hX⟩)
              · skip
                
                have hgs : ncN f.ntv f.input ≤ f.gas := by have := of_decide_eq_false cB2; omega
                refine c_skip ?_
                refine hK10 _ _ ?_
                refine fg3 0 3 4 (gS rfl (gS rfl (gS rfl g0))) (gS rfl (gS rfl g0)) (gS rfl g0) (fun g => ?_)
                refine c_seq (fun K19 hK19 => ?_)
                exact (by
                  refine c_region ?_
                  refine l_step (y_moveV (et (gS rfl g0) rfl)) ?_
                  refine l_step (y_nil (et g0 rfl)) ?_
                  refine l_step (y_fld fld_71_7 (et g0 rfl)) ?_
                  refine l_step (y_load1 one_26 (et g0 rfl) (at1 (hX.ex.vl.c1 (hR.r1 7 _ rfl) (by omega)))) ?_
                  refine l_step (y_moveV (et (gS rfl (gS rfl (gS rfl (gS rfl g0)))) rfl)) ?_
                  refine l_step (y_sub (et (gS rfl g0) rfl) (et g0 rfl) (wrapU_subN uk64 ?_ ?_)) ?_
                  omega
                  omega
                  refine l_step (y_nil (et (gS rfl (gS rfl (gS rfl (gS rfl (gS rfl g0))))) rfl)) ?_
                  refine l_step (y_fld fld_71_7 (et g0 rfl)) ?_
                  refine l_effN (e_store sz_26 (et g0 rfl) (cellsV (et (gS rfl (gS rfl g0)) rfl) rfl) rfl (by intro v hv; simp at hv; subst hv; rfl) hX.ex.vl.kC (by rw [hX.ex.vl.size]; omega)) (fun v20 w20 h20 => ?_)
                  obtain ⟨rfl, x20⟩ := h20
                  have hv20 := hX.stGas hs hp (p := f.gas - ncN f.ntv f.input) (c' := c) (by omega) (by omega) (by omega) x20
                  replace hX := hv20
                  replace U := U.cc x20.ch (by intro b hb; exact .inl trivial)
                  obtain ⟨s1, hs1⟩ : ∃ s1 : YSt, s1 = { s with frames := low ++ [natF f] } := ⟨_, rfl⟩
                  replace hX := hX.reS hs1
                  have hsf : s1.frames = low ++ [natF f] := by rw [hs1]
                  have hph1 : s1.phase = 1 := by rw [hs1]; exact hp
                  have hap1 : s1.applied ≤ 4 := by rw [hs1]; exact hap
                  have hms1 : ms = (low ++ [natF f]).map (fun g => g.mem) := by rw [hms]; simp [natF]
                  obtain ⟨n8, hn8, hR8⟩ := hX.ex.topF hsf
                  obtain ⟨ca8, cc8, ia8, ic8, hr58, hcode8, hinp8⟩ := hR8.r5
                  refine l_nil ?_
                  refine hK19 _ _ ?_
                  refine fg2 0 3 (gS rfl (gS rfl (gS rfl (gS rfl (gS rfl (gS rfl (gS rfl (gS rfl (gS rfl (gS rfl g0)))))))))) (gS rfl (gS rfl (gS rfl (gS rfl (gS rfl (gS rfl (gS rfl (gS rfl (gS rfl g0))))))))) (fun g => ?_)
                  refine c_seq (fun K21 hK21 => ?_)
                  exact (by
                    refine c_draw Up 10 [(0, true), (1, true), (2, true), (3, true), (4, true), (5, true), (6, true), (7, true), (8, true), (9, false), (10, false)] (by kernel_rfl) (fun w22 hu => ⟨Up.refl _, ?_⟩)
                    replace hX := hX.up hu
                    replace U := U.tr hu
                    have SU := Up.refl w22
                    refine p_step (by exact rfl) (y_moveV (et (gS rfl g0) rfl)) ?_
                    refine p_step (by exact rfl) (y_moveV (et (gS rfl g0) rfl)) ?_
                    refine p_step (by exact rfl) (y_nil (et g0 rfl)) ?_
                    refine p_step (by exact rfl) (y_fld fld_71_2 (et g0 rfl)) ?_
                    refine p_step (by exact rfl) (y_load1 one_5 (et g0 rfl) (atS (hX.ex.vl.c1 (hR8.r1 2 _ rfl) (by omega)))) ?_
                    refine p_step (by exact rfl) (y_moveV (et (gS rfl (gS rfl (gS rfl (gS rfl (gS rfl g0))))) rfl)) ?_
                    refine p_step (by exact rfl) (y_nil (et g0 rfl)) ?_
                    refine p_step (by exact rfl) (y_fld fld_71_13 (et g0 rfl)) ?_
                    refine p_step (by exact rfl) (y_load1 one_38 (et g0 rfl) (atS (hX.ex.vl.c1 (hr58 1 _ rfl) (by omega)))) ?_
                    refine p_eff (by exact rfl) (e_callV cal_187 (aC (et (gS rfl (gS rfl (gS rfl (gS rfl g0)))) rfl) (aC (et g0 rfl) aN)) (m_nativeRun hX.ex.vl.fz (l := f.input) hinp8 hbi9 f.ntv (by omega))) (fun v23 w23 h23 => ?_)
                    obtain ⟨H23, g23, b23⟩ := h23
                    replace hX := hX.gn g23
                    replace U := U.cc g23.ch (by intro b hb; exact .inl trivial)
                    obtain ⟨ca6, cc6, rfl⟩ := b23.sl
                    replace SU := SU.cc g23.ch (by intro b hb; first | exact .inl hb | exact hb.elim | omega)
                    refine ⟨.inr SU, ?_⟩
                    refine p_eff (by exact rfl) (e_callV cal_186 (aC (et (gS rfl (gS rfl (gS rfl (gS rfl (gS rfl (gS rfl (gS rfl (gS rfl (gS rfl g0))))))))) rfl) (aC (v := .int .u8 ((0 : Nat) : Int)) rfl (aC (et g0 rfl) aN))) (m_end hX.ex hsf hph1 0 (by decide) b23 (nr_len hbi9) hms1 hap1 hpar)) (fun v24 w24 h24 => ?_)
                    obtain ⟨rfl, hO24⟩ := h24
                    replace hX := hX.xo hO24
                    replace U := U.cc hO24.chc (by intro b hb; exact .inl trivial)
                    refine ⟨.inl rfl, ?_⟩
                    refine p_nil ?_
                    refine hK21 _ _ ?_
                    refine fg0 (fun g => ?_)
                    refine c_seq (fun K25 hK25 => ?_)
                    exact (by
                      refine c_region ?_
                      refine l_step y_assignC ?_
                      refine l_nil ?_
                      refine hK25 _ _ ?_
                      refine c_ret ?_
                      repeat with_reducible refine then_ret ?_
                      refine ret1 rfl (res_tmp (et g0 rfl)) ?_
                      have e9 : natY s f low = lvY s (natF f) 0 (nrN f.ntv f.input) low := if_pos ⟨hno, hgs⟩
                      rw [hs1, lvY_fr] at hX
                      rw [e9]
                      exact ⟨rfl, hX⟩))))))))
end Go.Proofs.YgvaawGreat
