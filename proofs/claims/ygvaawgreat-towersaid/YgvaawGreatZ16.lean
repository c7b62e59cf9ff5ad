import Derived.Test.YgvaawGreatZ15
set_option maxRecDepth 100000
set_option maxHeartbeats 4000000
set_option linter.unusedSimpArgs false
set_option linter.unusedVariables false
namespace Go.Proofs.YgvaawGreat
open Go
structure SXL (col : Nat → Nat) (bc : Nat) (cs0 : Array Value) (w0 w' : World) : Prop where
  sx : SX col bc w0 w'
  p0 : cs0[0]? = some (.pointer (some ⟨bc, 2435, none⟩))
  low : ∃ cs', Blk w' bc cs' ∧ Out cs0 cs' 2435 24584
section
variable {w0 w w' : World} {H0 H H' : Store} {col0 col col' : Nat → Nat} {bc : Nat} {cs cs' : Array Value} {V V' : EV} {s : YSt} {sn : List Nat} {sv : List AW} {ms : List (List Nat)} {c c' : Nat} {low : List YF} {f : YF}
theorem SXL.refl (h : XT w0 H0 col0 w H col bc cs V s sn sv ms c) : SXL col bc cs w w := ⟨SX.refl h, h.ex.lx.pS, cs, h.ex.vl.kC, Out.refl _ _ _⟩
theorem SXL.ch (h : SXL col bc cs w w') : Ch (fun b => col b ≠ 0) w w' := h.sx.ch
theorem SXL.tr {w2 : World} (h : SXL col bc cs w w') (u : Up w' w2) : SXL col bc cs w w2 := by
  obtain ⟨d, h1, h2⟩ := h.low
  exact ⟨h.sx.tr u, h.p0, d, h1.up u, h2⟩
theorem SXL.xc {w2 : World} {H1 H2 : Store} {c1 c2 : Nat → Nat} {cs1 cs2 : Array Value} {V2 : EV} (h : SXL col bc cs w w') (t : VT w' H1 c1 bc cs1 w2 H2 c2 cs2 V2) (hk : Blk w' bc cs1) (hp : w2.cell? ⟨bc, 0, none⟩ = some (.pointer (some ⟨bc, 2435, none⟩))) (hM : ∀ b, b < w.heap.size → (0 < c1 b ∧ c1 b < 8) → col b ≠ 0) : SXL col bc cs w w2 := by
  obtain ⟨d, h1, h2⟩ := h.low
  have e := h1.inj hk
  subst e
  exact ⟨h.sx.xc t.go.ch hp hM, h.p0, cs2, t.vl.kC, h2.trans t.out⟩
theorem toL {P : World → Prop} (h : ∀ w', SX col bc w w' → P w') : ∀ w', SXL col bc cs w w' → P w' := fun w' e => h w' e.sx
theorem atXLP : ∀ w', SXL col bc cs w w' → w'.cell? ⟨bc, 0, none⟩ = some (.pointer (some ⟨bc, 2435, none⟩)) := fun _ h => h.sx.pS
theorem atXLR {o p : Nat} {vs : List Value} (h : RowIn cs p vs) (e : o = p) (hp : p + vs.length ≤ 2435) : ∀ w', SXL col bc cs w w' → Row w' bc o vs := fun w' g => by
  obtain ⟨d, h1, h2⟩ := g.low
  exact h1.rowO (h2.row h (.inl hp)) e
/-- the world's lists may be others that mean the same -/
theorem XT.now {W : YWorld} (h : XT w0 H0 col0 w H col bc cs V s sn sv ms c) (e : absY W = absY s.now) : XT w0 H0 col0 w H col bc cs V { s with now := W } sn sv ms c := by
  refine ⟨⟨h.ex.vl, h.ex.ok, h.ex.lx.now W, h.ex.mx, ⟨?_, h.ex.px.snp, h.ex.px.inc, h.ex.px.has, h.ex.px.org, h.ex.px.pot⟩⟩, h.et⟩
  show VA V (absY W) sv _
  rw [e]
  exact h.ex.px.va
theorem EX.tlC (hE : EX w H col bc cs V s sn sv ms c) (a k : Nat) (ha : a < A160) (hk : k < W256) : Ret 310 [.pointer (some ⟨bc, 2435, none⟩), aV a, wV k] w (fun v w' => v = wV (triAt s.now.temps a k) ∧ Up w w') := by
  have h := v_tload hE.vl hE.ok a k ha hk
  rw [hE.tl] at h
  exact h
end
theorem fset2_self {β : Type} (f : Nat → Nat → β) {a k : Nat} {u : β} (h : f a k = u) : fset2 f a k u = f := by
  funext b q
  unfold fset2
  split
  · rename_i e; rw [e.1, e.2, h]
  · rfl
theorem tri_lt {w : World} {H : Store} {col : Nat → Nat} {bc : Nat} {cs : Array Value} {V : EV} {s : YSt} {sn : List Nat} {sv : List AW} {ms : List (List Nat)} {c : Nat} (hE : EX w H col bc cs V s sn sv ms c) (a k : Nat) : triAt s.now.temps a k < W256 := by
  rw [← hE.tl]
  show (tx V a k).val < W256
  by_cases h : (ai V a, k) ∈ tKs V.temps
  · obtain ⟨x, h1, h2, h3⟩ := tKs_get.1 (idx_get h)
    obtain ⟨b, c', cap, hA⟩ := hE.vl.temp h1
    rw [tx_eq hE.ok h1 h2 h3]
    exact hA.ok.val
  · rw [tx_no h]
    show 0 < W256
    decide
theorem m_opTload {w : World} {H : Store} {col : Nat → Nat} {bc : Nat} {cs : Array Value} {V : EV} {s : YSt} {sn : List Nat} {sv : List AW} {ms : List (List Nat)} {c : Nat} {low : List YF} {f : YF} (hE : EX w H col bc cs V s sn sv ms c) (hs : s.frames = low ++ [f]) (hp : s.phase = 1) (hq : opcN f = 92) (hpc9 : f.pc < 512) (htk9 : 1 ≤ f.stack.length) :
    Ret 201 [.pointer (some ⟨bc, 0, none⟩)] w (fun v w' => v = .tuple #[] ∧ ∃ cs', XT w H col w' H col bc cs' V { s with frames := low ++ [ansN f 1 (triAt s.now.temps f.self (argN f.stack 0))] } sn sv ms c) := by
  obtain ⟨n9, hn9, hR⟩ := hE.topF hs
  have hB := hE.fbT hs
  have h6 := hE.six hs
  have htop := hE.cTop hs
  have hphs := hE.cPh hp
  have hbp := hB.pc
  have hbs := hB.stk
  have hbg := hB.gas
  have hbc9 := hB.code
  have hnw := hE.vl.new
  have hfz := hE.vl.fz
  have hcC := hE.vl.colC
  have hbc0 := hE.vl.kC.lt
  have hX := XT.refl hE
  refine enter (n := 56) Hvaa.func201 rfl rfl (Nat.le_of_ble_eq_true rfl) ?_
  have U : Ch (fun _ => True) w w := Ch.refl _ w
  refine c_seq (fun K1 hK1 => ?_)
  exact (by
    refine c_region ?_
    refine l_step (y_moveV (et g0 rfl)) ?_
    refine l_eff (e_callV cal_183 (aC (et g0 rfl) aN) (m_running hX.ex hs hp)) (fun v2 w2 h2 => ?_)
    obtain ⟨rfl, u2⟩ := h2
    replace hX := hX.up u2
    replace U := U.tr u2
    refine l_step (y_assignV (et g0 rfl)) ?_
    refine l_nil ?_
    refine hK1 _ _ ?_
    refine fg2 0 2 (gS rfl (gS rfl (gS rfl g0))) g0 (fun g => ?_)
    refine c_seq (fun K3 hK3 => ?_)
    refine c_seq (fun K4 hK4 => ?_)
    exact (by
      refine c_region ?_
      refine l_step (y_moveV (et g0 rfl)) ?_
      refine l_step (y_eqlNil Hvaa.underlying276 (et g0 rfl) rfl) ?_
      refine l_nil ?_
      refine hK4 _ _ ?_
      refine fg3 0 2 9 (gS rfl (gS rfl (gS rfl g0))) (gS rfl (gS rfl g0)) g0 (fun g => ?_)
      refine c_false (et g0 rfl) rfl ?_
      refine c_skip ?_
      refine hK3 _ _ ?_
      refine fg2 0 2 (gS rfl (gS rfl g0)) (gS rfl g0) (fun g => ?_)
      refine c_seq (fun K6 hK6 => ?_)
      exact (by
        refine c_region ?_
        refine l_step (y_moveV (et (gS rfl g0) rfl)) ?_
        refine l_step (y_moveV (et (gS rfl g0) rfl)) ?_
        refine l_eff (e_callV cal_264 (aC (et (gS rfl g0) rfl) (aC (et g0 rfl) (aC (v := .int .i64 ((0 : Nat) : Int)) rfl aN))) (m_arg hX.ex hs hp (by first | exact hpf | rfl) _ (by decide))) (fun v7 w7 h7 => ?_)
        obtain ⟨rfl, u7⟩ := h7
        replace hX := hX.up u7
        replace U := U.tr u7
        refine l_eff (e_alloc zr_65) (fun v8 w8 h8 => ?_)
        obtain ⟨b8, rfl, n8⟩ := h8
        have f8 : w.heap.size ≤ b8 := Nat.le_trans U.size n8.fresh
        replace hX := hX.up n8.up
        replace U := U.tr n8.up
        have k8 := n8.blk
        obtain ⟨zs8, hz8, k8⟩ : ∃ cs : Array Value, cs.size = 4 ∧ Blk w8 b8 cs := ⟨_, rfl, k8⟩
        have nc8 : col b8 = 0 := hnw _ f8
        refine l_effN (e_store sz_65 (et g0 rfl) (cellsV (et (gS rfl g0) rfl) rfl) rfl (by exact one_uL _) k8 (by (first | (rw [hz8]; exact Nat.le_refl _) | (rw [List.size_toArray, wL_len]; exact Nat.le_refl _)))) (fun v9 w9 h9 => ?_)
        obtain ⟨rfl, x9⟩ := h9
        replace hX := hX.ch x9.ch (by first | omega | (intro b hb; first | (subst hb; exact ⟨by omega, fun hh => by have := hfz.lt hh; omega, by omega⟩) | (rcases hb with hb | hb <;> (subst hb; exact ⟨by omega, fun hh => by have := hfz.lt hh; omega, by omega⟩))))
        replace k8 := x9.blk.full (by first | (rw [hz8]; rfl) | (rw [List.size_toArray, wL_len, wL_len]))
        replace U := U.st x9 (.inr f8)
        refine l_nil ?_
        refine hK6 _ _ ?_
        refine fg3 0 2 3 (gS rfl (gS rfl (gS rfl (gS rfl (gS rfl g0))))) (gS rfl (gS rfl (gS rfl (gS rfl g0)))) g0 (fun g => ?_)
        refine c_seq (fun K10 hK10 => ?_)
        exact (by
          have hnw1 := hX.ex.vl.new
          refine fgv3 0 2 3 (gS rfl (gS rfl g0)) (gS rfl g0) g0 (fun g z0 z2 z3 e0 e2 e3 => ?_)
          refine c_drawJ (fun s_ w_ => ∃ (g : Nat → Value) (b12 : Nat), s_ = (upd (upd (upd (upd g 0 z0) 2 z2) 3 z3) 4 (.pointer (some ⟨b12, 0, none⟩))) ∧ Ch (fun _ => False) w9 w_ ∧ w9.heap.size ≤ b12 ∧ Blk w_ b12 ((wL (triAt s.now.temps f.self (argN f.stack 0))).toArray)) Up 11 (.pure 0 (.pure 1 (.pure 2 (.pure 3 (.pure 4 (.pure 5 (.pure 6 (.pure 7 (.pure 8 (.two 9 (.eff 10 (.eff 11 .fin)) 10 (.eff 9 (.eff 11 .fin)))))))))))) (by kernel_rfl) (fun w13 hu => ⟨Up.refl _, ?_⟩) ?_
          · skip
            subst e0 e2 e3
            replace k8 := k8.up hu
            replace hX := hX.up hu
            replace U := U.tr hu
            have SU := Up.refl w13
            have V11 : Ch (fun _ => False) w9 w13 := hu
            refine t_step (by exact rfl) (y_moveV (et (gS rfl (gS rfl g0)) rfl)) ?_
            refine t_step (by exact rfl) (y_nil (et g0 rfl)) ?_
            refine t_step (by exact rfl) (y_fld fld_75_0 (et g0 rfl)) ?_
            refine t_step (by exact rfl) (y_load1 one_59 (et g0 rfl) (atS (hX.ex.vl.c1 hX.ex.lx.pS rfl))) ?_
            refine t_step (by exact rfl) (y_moveV (et (gS rfl (gS rfl (gS rfl (gS rfl (gS rfl g0))))) rfl)) ?_
            refine t_step (by exact rfl) (y_nil (et g0 rfl)) ?_
            refine t_step (by exact rfl) (y_fld fld_71_9 (et g0 rfl)) ?_
            refine t_step (by exact rfl) (y_loadR agg_25 sz_25 (et g0 rfl) (by rw [length_bL, length_be]) (atSR (hX.ex.vl.kC.rowO hR.r2 (by omega)))) ?_
            refine t_step (by exact rfl) (y_loadB agg_65 sz_65 (et (gS rfl (gS rfl (gS rfl (gS rfl (gS rfl (gS rfl (gS rfl (gS rfl g0)))))))) rfl) rfl (atSB k8)) ?_
            refine t_two ?_ ?_
            · skip
              refine t_eff (by exact rfl) (e_callV cal_310 (aC (et (gS rfl (gS rfl (gS rfl (gS rfl (gS rfl g0))))) rfl) (aC (et (gS rfl g0) rfl) (aC (et g0 rfl) aN))) (hX.ex.tlC f.self (argN f.stack 0) hB.self (argN_lt hB _))) (fun v14 w14 h14 => ?_)
              obtain ⟨rfl, u14⟩ := h14
              replace k8 := k8.up u14
              replace hX := hX.up u14
              replace U := U.tr u14
              replace V11 := V11.tr u14
              refine ⟨.inr (SU.tr u14), ?_⟩
              replace SU := SU.tr u14
              refine t_one ?_
              refine t_eff (by exact rfl) (e_alloc zr_65) (fun v15 w15 h15 => ?_)
              obtain ⟨b15, rfl, n15⟩ := h15
              have d8_15 : b8 < b15 := Nat.lt_of_lt_of_le k8.lt n15.fresh
              have f15 : w.heap.size ≤ b15 := Nat.le_trans U.size n15.fresh
              have fS15 := Nat.le_trans SU.size n15.fresh
              have fV11_15 := Nat.le_trans V11.size n15.fresh
              replace k8 := k8.up n15.up
              replace hX := hX.up n15.up
              replace U := U.tr n15.up
              replace V11 := V11.tr n15.up
              have k15 := n15.blk
              obtain ⟨zs15, hz15, k15⟩ : ∃ cs : Array Value, cs.size = 4 ∧ Blk w15 b15 cs := ⟨_, rfl, k15⟩
              refine ⟨.inr (SU.tr n15.up), ?_⟩
              replace SU := SU.tr n15.up
              have nc15 := hnw1 b15 (Nat.le_trans hu.size fS15)
              refine t_one ?_
              refine t_effN (by exact rfl) (e_store sz_65 (et g0 rfl) (cellsV (et (gS rfl g0) rfl) rfl) rfl (by exact one_uL _) k15 (by (first | (rw [hz15]; exact Nat.le_refl _) | (rw [List.size_toArray, wL_len]; exact Nat.le_refl _)))) (fun v16 w16 h16 => ?_)
              obtain ⟨rfl, x16⟩ := h16
              replace k8 := k8.ch x16.ch (by omega)
              replace hX := hX.ch x16.ch (by first | omega | (intro b hb; first | (subst hb; exact ⟨by omega, fun hh => by have := hfz.lt hh; omega, by omega⟩) | (rcases hb with hb | hb <;> (subst hb; exact ⟨by omega, fun hh => by have := hfz.lt hh; omega, by omega⟩))))
              replace k15 := x16.blk.full (by first | (rw [hz15]; rfl) | (rw [List.size_toArray, wL_len, wL_len]))
              replace U := U.st x16 (.inr f15)
              replace V11 := V11.st x16 (by omega)
              refine ⟨.inl rfl, ?_⟩
              refine tl4 0 2 3 4 (gS rfl (gS rfl (gS rfl (gS rfl (gS rfl (gS rfl (gS rfl (gS rfl (gS rfl (gS rfl (gS rfl (gS rfl (gS rfl g0))))))))))))) (gS rfl (gS rfl (gS rfl (gS rfl (gS rfl (gS rfl (gS rfl (gS rfl (gS rfl (gS rfl (gS rfl (gS rfl g0)))))))))))) (gS rfl (gS rfl (gS rfl (gS rfl (gS rfl (gS rfl (gS rfl (gS rfl (gS rfl (gS rfl (gS rfl g0))))))))))) g0 (fun g => ?_)
              exact ⟨g, _, rfl, V11, Nat.le_trans hu.size fS15, k15⟩
            · skip
              refine t_eff (by exact rfl) (e_alloc zr_65) (fun v17 w17 h17 => ?_)
              obtain ⟨b17, rfl, n17⟩ := h17
              have d8_17 : b8 < b17 := Nat.lt_of_lt_of_le k8.lt n17.fresh
              have f17 : w.heap.size ≤ b17 := Nat.le_trans U.size n17.fresh
              have fS17 := Nat.le_trans SU.size n17.fresh
              have fV11_17 := Nat.le_trans V11.size n17.fresh
              replace k8 := k8.up n17.up
              replace hX := hX.up n17.up
              replace U := U.tr n17.up
              replace V11 := V11.tr n17.up
              have k17 := n17.blk
              obtain ⟨zs17, hz17, k17⟩ : ∃ cs : Array Value, cs.size = 4 ∧ Blk w17 b17 cs := ⟨_, rfl, k17⟩
              refine ⟨.inr (SU.tr n17.up), ?_⟩
              replace SU := SU.tr n17.up
              have nc17 := hnw1 b17 (Nat.le_trans hu.size fS17)
              refine t_one ?_
              refine t_eff (by exact rfl) (e_callV cal_310 (aC (et (gS rfl (gS rfl (gS rfl (gS rfl (gS rfl (gS rfl g0)))))) rfl) (aC (et (gS rfl (gS rfl g0)) rfl) (aC (et (gS rfl g0) rfl) aN))) (hX.ex.tlC f.self (argN f.stack 0) hB.self (argN_lt hB _))) (fun v18 w18 h18 => ?_)
              obtain ⟨rfl, u18⟩ := h18
              replace k8 := k8.up u18
              replace k17 := k17.up u18
              replace hX := hX.up u18
              replace U := U.tr u18
              replace V11 := V11.tr u18
              refine ⟨.inr (SU.tr u18), ?_⟩
              replace SU := SU.tr u18
              refine t_one ?_
              refine t_effN (by exact rfl) (e_store sz_65 (et (gS rfl g0) rfl) (cellsV (et g0 rfl) rfl) rfl (by exact one_uL _) k17 (by (first | (rw [hz17]; exact Nat.le_refl _) | (rw [List.size_toArray, wL_len]; exact Nat.le_refl _)))) (fun v19 w19 h19 => ?_)
              obtain ⟨rfl, x19⟩ := h19
              replace k8 := k8.ch x19.ch (by omega)
              replace hX := hX.ch x19.ch (by first | omega | (intro b hb; first | (subst hb; exact ⟨by omega, fun hh => by have := hfz.lt hh; omega, by omega⟩) | (rcases hb with hb | hb <;> (subst hb; exact ⟨by omega, fun hh => by have := hfz.lt hh; omega, by omega⟩))))
              replace k17 := x19.blk.full (by first | (rw [hz17]; rfl) | (rw [List.size_toArray, wL_len, wL_len]))
              replace U := U.st x19 (.inr f17)
              replace V11 := V11.st x19 (by omega)
              refine ⟨.inl rfl, ?_⟩
              refine tl4 0 2 3 4 (gS rfl (gS rfl (gS rfl (gS rfl (gS rfl (gS rfl (gS rfl (gS rfl (gS rfl (gS rfl (gS rfl (gS rfl (gS rfl g0))))))))))))) (gS rfl (gS rfl (gS rfl (gS rfl (gS rfl (gS rfl (gS rfl (gS rfl (gS rfl (gS rfl (gS rfl (gS rfl g0)))))))))))) (gS rfl (gS rfl (gS rfl (gS rfl (gS rfl (gS rfl (gS rfl (gS rfl (gS rfl (gS rfl (gS rfl g0))))))))))) (gS rfl g0) (fun g => ?_)
              exact ⟨g, _, rfl, V11, Nat.le_trans hu.size fS17, k17⟩
          intro s_ w20 hJ
          obtain ⟨g, b12, rfl, V11, fn12, kn12⟩ := hJ
          subst e0 e2 e3
          have d8_12 : b8 < b12 := Nat.lt_of_lt_of_le k8.lt fn12
          have f12 : w.heap.size ≤ b12 := Nat.le_trans U.size fn12
          replace k8 := k8.up V11
          replace hX := hX.up V11
          replace U := U.tr V11
          have k12 := kn12
          have nc12 := hnw1 b12 fn12
          refine hK10 _ _ ?_
          refine c_seq (fun K21 hK21 => ?_)
          refine c_seq (fun K22 hK22 => ?_)
          exact (by
            refine c_region ?_
            refine l_step (y_moveV (et (gS rfl (gS rfl (gS rfl g0))) rfl)) ?_
            refine l_eff (e_callV cal_108 (aC (et g0 rfl) aN) (m_opcode hX.ex hs hp)) (fun v23 w23 h23 => ?_)
            obtain ⟨rfl, u23⟩ := h23
            replace k8 := k8.up u23
            replace k12 := k12.up u23
            replace hX := hX.up u23
            replace U := U.tr u23
            refine l_step (y_eql (et g0 rfl) rfl) ?_
            refine l_nil ?_
            refine hK22 _ _ ?_
            refine fg5 0 2 3 4 25 (gS rfl (gS rfl (gS rfl (gS rfl (gS rfl (gS rfl g0)))))) (gS rfl (gS rfl (gS rfl (gS rfl (gS rfl g0))))) (gS rfl (gS rfl (gS rfl (gS rfl g0)))) (gS rfl (gS rfl (gS rfl g0))) g0 (fun g => ?_)
            refine c_true (et g0 rfl) (by (exact decide_eq_true (by omega))) ?_
            refine c_seq (fun K25 hK25 => ?_)
            exact (by
              refine c_region ?_
              refine l_step (y_moveV (et (gS rfl (gS rfl (gS rfl (gS rfl g0)))) rfl)) ?_
              refine l_step (y_moveV (et (gS rfl (gS rfl (gS rfl (gS rfl g0)))) rfl)) ?_
              refine l_step (y_loadB agg_65 sz_65 (et (gS rfl (gS rfl (gS rfl g0))) rfl) rfl (at1B k12)) ?_
              refine l_eff (e_callV cal_259 (aC (et (gS rfl (gS rfl g0)) rfl) (aC (et (gS rfl g0) rfl) (aC (v := .int .u16 ((1 : Nat) : Int)) rfl (aC rfl (aC (et g0 rfl) (aC (v := .int .u16 ((1 : Nat) : Int)) rfl aN)))))) (m_settle1 hX.ex hs hp rfl 1 _ 1 (by omega) (tri_lt hE _ _) (by omega) (by omega))) (fun v26 w26 h26 => ?_)
              obtain ⟨rfl, cs26, y26⟩ := h26
              replace k8 := k8.ch y26.et.go.ch (by intro hm; (have e0 := hm); omega)
              replace k12 := k12.ch y26.et.go.ch (by intro hm; (have e0 := hm); omega)
              replace hX := hX.trans y26
              replace U := U.cc y26.et.go.ch (by intro b hb; exact .inl trivial)
              refine l_nil ?_
              refine hK25 _ _ ?_
              refine fg0 (fun g => ?_)
              refine c_ret ?_
              repeat with_reducible refine then_ret ?_
              refine ret0 rfl ?_
              exact ⟨rfl, _, hX⟩))))))
theorem m_opTstore {w : World} {H : Store} {col : Nat → Nat} {bc : Nat} {cs : Array Value} {V : EV} {s : YSt} {sn : List Nat} {sv : List AW} {ms : List (List Nat)} {c : Nat} {low : List YF} {f : YF} (hE : EX w H col bc cs V s sn sv ms c) (hs : s.frames = low ++ [f]) (hp : s.phase = 1) (hq : opcN f = 93) (hpc9 : f.pc < 512) (htk9 : 2 ≤ f.stack.length) {c' : Nat} (hap : s.applied ≤ 4) (hc : c' + 100 ≤ c) :
    Ret 201 [.pointer (some ⟨bc, 0, none⟩)] w (fun v w' => v = .tuple #[] ∧ ∃ col' cs' V', XT w H col w' H col' bc cs' V' { s with now := { s.now with temps := putT s.now.temps f.self (argN f.stack 0) (argN f.stack 1) }, frames := low ++ [setF f 2 false 0 1] } sn sv ms c') := by
  obtain ⟨n9, hn9, hR⟩ := hE.topF hs
  have hB := hE.fbT hs
  have h6 := hE.six hs
  have htop := hE.cTop hs
  have hphs := hE.cPh hp
  have hbp := hB.pc
  have hbs := hB.stk
  have hbg := hB.gas
  have hbc9 := hB.code
  have hnw := hE.vl.new
  have hfz := hE.vl.fz
  have hcC := hE.vl.colC
  have hbc0 := hE.vl.kC.lt
  have hX := XT.refl hE
  have hro := hE.room hap
  obtain ⟨nt9, hnt8, hnt9⟩ := teR hro.t f.self (argN f.stack 0)
  refine enter (n := 56) Hvaa.func201 rfl rfl (Nat.le_of_ble_eq_true rfl) ?_
  have U : Ch (fun _ => True) w w := Ch.refl _ w
  refine c_seq (fun K1 hK1 => ?_)
  exact (by
    refine c_region ?_
    refine l_step (y_moveV (et g0 rfl)) ?_
    refine l_eff (e_callV cal_183 (aC (et g0 rfl) aN) (m_running hX.ex hs hp)) (fun v2 w2 h2 => ?_)
    obtain ⟨rfl, u2⟩ := h2
    replace hX := hX.up u2
    replace U := U.tr u2
    refine l_step (y_assignV (et g0 rfl)) ?_
    refine l_nil ?_
    refine hK1 _ _ ?_
    refine fg2 0 2 (gS rfl (gS rfl (gS rfl g0))) g0 (fun g => ?_)
    refine c_seq (fun K3 hK3 => ?_)
    refine c_seq (fun K4 hK4 => ?_)
    exact (by
      refine c_region ?_
      refine l_step (y_moveV (et g0 rfl)) ?_
      refine l_step (y_eqlNil Hvaa.underlying276 (et g0 rfl) rfl) ?_
      refine l_nil ?_
      refine hK4 _ _ ?_
      refine fg3 0 2 9 (gS rfl (gS rfl (gS rfl g0))) (gS rfl (gS rfl g0)) g0 (fun g => ?_)
      refine c_false (et g0 rfl) rfl ?_
      refine c_skip ?_
      refine hK3 _ _ ?_
      refine fg2 0 2 (gS rfl (gS rfl g0)) (gS rfl g0) (fun g => ?_)
      refine c_seq (fun K6 hK6 => ?_)
      exact (by
        refine c_region ?_
        refine l_step (y_moveV (et (gS rfl g0) rfl)) ?_
        refine l_step (y_moveV (et (gS rfl g0) rfl)) ?_
        refine l_eff (e_callV cal_264 (aC (et (gS rfl g0) rfl) (aC (et g0 rfl) (aC (v := .int .i64 ((0 : Nat) : Int)) rfl aN))) (m_arg hX.ex hs hp (by first | exact hpf | rfl) _ (by decide))) (fun v7 w7 h7 => ?_)
        obtain ⟨rfl, u7⟩ := h7
        replace hX := hX.up u7
        replace U := U.tr u7
        refine l_eff (e_alloc zr_65) (fun v8 w8 h8 => ?_)
        obtain ⟨b8, rfl, n8⟩ := h8
        have f8 : w.heap.size ≤ b8 := Nat.le_trans U.size n8.fresh
        replace hX := hX.up n8.up
        replace U := U.tr n8.up
        have k8 := n8.blk
        obtain ⟨zs8, hz8, k8⟩ : ∃ cs : Array Value, cs.size = 4 ∧ Blk w8 b8 cs := ⟨_, rfl, k8⟩
        have nc8 : col b8 = 0 := hnw _ f8
        refine l_effN (e_store sz_65 (et g0 rfl) (cellsV (et (gS rfl g0) rfl) rfl) rfl (by exact one_uL _) k8 (by (first | (rw [hz8]; exact Nat.le_refl _) | (rw [List.size_toArray, wL_len]; exact Nat.le_refl _)))) (fun v9 w9 h9 => ?_)
        obtain ⟨rfl, x9⟩ := h9
        replace hX := hX.ch x9.ch (by first | omega | (intro b hb; first | (subst hb; exact ⟨by omega, fun hh => by have := hfz.lt hh; omega, by omega⟩) | (rcases hb with hb | hb <;> (subst hb; exact ⟨by omega, fun hh => by have := hfz.lt hh; omega, by omega⟩))))
        replace k8 := x9.blk.full (by first | (rw [hz8]; rfl) | (rw [List.size_toArray, wL_len, wL_len]))
        replace U := U.st x9 (.inr f8)
        refine l_nil ?_
        refine hK6 _ _ ?_
        refine fg3 0 2 3 (gS rfl (gS rfl (gS rfl (gS rfl (gS rfl g0))))) (gS rfl (gS rfl (gS rfl (gS rfl g0)))) g0 (fun g => ?_)
        refine c_seq (fun K10 hK10 => ?_)
        exact (by
          have hnw1 := hX.ex.vl.new
          refine fgv3 0 2 3 (gS rfl (gS rfl g0)) (gS rfl g0) g0 (fun g z0 z2 z3 e0 e2 e3 => ?_)
          refine c_drawJ (fun s_ w_ => ∃ (g : Nat → Value) (b12 : Nat), s_ = (upd (upd (upd (upd g 0 z0) 2 z2) 3 z3) 4 (.pointer (some ⟨b12, 0, none⟩))) ∧ Ch (fun _ => False) w9 w_ ∧ w9.heap.size ≤ b12 ∧ Blk w_ b12 ((wL (triAt s.now.temps f.self (argN f.stack 0))).toArray)) Up 11 (.pure 0 (.pure 1 (.pure 2 (.pure 3 (.pure 4 (.pure 5 (.pure 6 (.pure 7 (.pure 8 (.two 9 (.eff 10 (.eff 11 .fin)) 10 (.eff 9 (.eff 11 .fin)))))))))))) (by kernel_rfl) (fun w13 hu => ⟨Up.refl _, ?_⟩) ?_
          · skip
            subst e0 e2 e3
            replace k8 := k8.up hu
            replace hX := hX.up hu
            replace U := U.tr hu
            have SU := Up.refl w13
            have V11 : Ch (fun _ => False) w9 w13 := hu
            refine t_step (by exact rfl) (y_moveV (et (gS rfl (gS rfl g0)) rfl)) ?_
            refine t_step (by exact rfl) (y_nil (et g0 rfl)) ?_
            refine t_step (by exact rfl) (y_fld fld_75_0 (et g0 rfl)) ?_
            refine t_step (by exact rfl) (y_load1 one_59 (et g0 rfl) (atS (hX.ex.vl.c1 hX.ex.lx.pS rfl))) ?_
            refine t_step (by exact rfl) (y_moveV (et (gS rfl (gS rfl (gS rfl (gS rfl (gS rfl g0))))) rfl)) ?_
            refine t_step (by exact rfl) (y_nil (et g0 rfl)) ?_
            refine t_step (by exact rfl) (y_fld fld_71_9 (et g0 rfl)) ?_
            refine t_step (by exact rfl) (y_loadR agg_25 sz_25 (et g0 rfl) (by rw [length_bL, length_be]) (atSR (hX.ex.vl.kC.rowO hR.r2 (by omega)))) ?_
            refine t_step (by exact rfl) (y_loadB agg_65 sz_65 (et (gS rfl (gS rfl (gS rfl (gS rfl (gS rfl (gS rfl (gS rfl (gS rfl g0)))))))) rfl) rfl (atSB k8)) ?_
            refine t_two ?_ ?_
            · skip
              refine t_eff (by exact rfl) (e_callV cal_310 (aC (et (gS rfl (gS rfl (gS rfl (gS rfl (gS rfl g0))))) rfl) (aC (et (gS rfl g0) rfl) (aC (et g0 rfl) aN))) (hX.ex.tlC f.self (argN f.stack 0) hB.self (argN_lt hB _))) (fun v14 w14 h14 => ?_)
              obtain ⟨rfl, u14⟩ := h14
              replace k8 := k8.up u14
              replace hX := hX.up u14
              replace U := U.tr u14
              replace V11 := V11.tr u14
              refine ⟨.inr (SU.tr u14), ?_⟩
              replace SU := SU.tr u14
              refine t_one ?_
              refine t_eff (by exact rfl) (e_alloc zr_65) (fun v15 w15 h15 => ?_)
              obtain ⟨b15, rfl, n15⟩ := h15
              have d8_15 : b8 < b15 := Nat.lt_of_lt_of_le k8.lt n15.fresh
              have f15 : w.heap.size ≤ b15 := Nat.le_trans U.size n15.fresh
              have fS15 := Nat.le_trans SU.size n15.fresh
              have fV11_15 := Nat.le_trans V11.size n15.fresh
              replace k8 := k8.up n15.up
              replace hX := hX.up n15.up
              replace U := U.tr n15.up
              replace V11 := V11.tr n15.up
              have k15 := n15.blk
              obtain ⟨zs15, hz15, k15⟩ : ∃ cs : Array Value, cs.size = 4 ∧ Blk w15 b15 cs := ⟨_, rfl, k15⟩
              refine ⟨.inr (SU.tr n15.up), ?_⟩
              replace SU := SU.tr n15.up
              have nc15 := hnw1 b15 (Nat.le_trans hu.size fS15)
              refine t_one ?_
              refine t_effN (by exact rfl) (e_store sz_65 (et g0 rfl) (cellsV (et (gS rfl g0) rfl) rfl) rfl (by exact one_uL _) k15 (by (first | (rw [hz15]; exact Nat.le_refl _) | (rw [List.size_toArray, wL_len]; exact Nat.le_refl _)))) (fun v16 w16 h16 => ?_)
              obtain ⟨rfl, x16⟩ := h16
              replace k8 := k8.ch x16.ch (by omega)
              replace hX := hX.ch x16.ch (by first | omega | (intro b hb; first | (subst hb; exact ⟨by omega, fun hh => by have := hfz.lt hh; omega, by omega⟩) | (rcases hb with hb | hb <;> (subst hb; exact ⟨by omega, fun hh => by have := hfz.lt hh; omega, by omega⟩))))
              replace k15 := x16.blk.full (by first | (rw [hz15]; rfl) | (rw [List.size_toArray, wL_len, wL_len]))
              replace U := U.st x16 (.inr f15)
              replace V11 := V11.st x16 (by omega)
              refine ⟨.inl rfl, ?_⟩
              refine tl4 0 2 3 4 (gS rfl (gS rfl (gS rfl (gS rfl (gS rfl (gS rfl (gS rfl (gS rfl (gS rfl (gS rfl (gS rfl (gS rfl (gS rfl g0))))))))))))) (gS rfl (gS rfl (gS rfl (gS rfl (gS rfl (gS rfl (gS rfl (gS rfl (gS rfl (gS rfl (gS rfl (gS rfl g0)))))))))))) (gS rfl (gS rfl (gS rfl (gS rfl (gS rfl (gS rfl (gS rfl (gS rfl (gS rfl (gS rfl (gS rfl g0))))))))))) g0 (fun g => ?_)
              exact ⟨g, _, rfl, V11, Nat.le_trans hu.size fS15, k15⟩
            · skip
              refine t_eff (by exact rfl) (e_alloc zr_65) (fun v17 w17 h17 => ?_)
              obtain ⟨b17, rfl, n17⟩ := h17
              have d8_17 : b8 < b17 := Nat.lt_of_lt_of_le k8.lt n17.fresh
              have f17 : w.heap.size ≤ b17 := Nat.le_trans U.size n17.fresh
              have fS17 := Nat.le_trans SU.size n17.fresh
              have fV11_17 := Nat.le_trans V11.size n17.fresh
              replace k8 := k8.up n17.up
              replace hX := hX.up n17.up
              replace U := U.tr n17.up
              replace V11 := V11.tr n17.up
              have k17 := n17.blk
              obtain ⟨zs17, hz17, k17⟩ : ∃ cs : Array Value, cs.size = 4 ∧ Blk w17 b17 cs := ⟨_, rfl, k17⟩
              refine ⟨.inr (SU.tr n17.up), ?_⟩
              replace SU := SU.tr n17.up
              have nc17 := hnw1 b17 (Nat.le_trans hu.size fS17)
              refine t_one ?_
              refine t_eff (by exact rfl) (e_callV cal_310 (aC (et (gS rfl (gS rfl (gS rfl (gS rfl (gS rfl (gS rfl g0)))))) rfl) (aC (et (gS rfl (gS rfl g0)) rfl) (aC (et (gS rfl g0) rfl) aN))) (hX.ex.tlC f.self (argN f.stack 0) hB.self (argN_lt hB _))) (fun v18 w18 h18 => ?_)
              obtain ⟨rfl, u18⟩ := h18
              replace k8 := k8.up u18
              replace k17 := k17.up u18
              replace hX := hX.up u18
              replace U := U.tr u18
              replace V11 := V11.tr u18
              refine ⟨.inr (SU.tr u18), ?_⟩
              replace SU := SU.tr u18
              refine t_one ?_
              refine t_effN (by exact rfl) (e_store sz_65 (et (gS rfl g0) rfl) (cellsV (et g0 rfl) rfl) rfl (by exact one_uL _) k17 (by (first | (rw [hz17]; exact Nat.le_refl _) | (rw [List.size_toArray, wL_len]; exact Nat.le_refl _)))) (fun v19 w19 h19 => ?_)
              obtain ⟨rfl, x19⟩ := h19
              replace k8 := k8.ch x19.ch (by omega)
              replace hX := hX.ch x19.ch (by first | omega | (intro b hb; first | (subst hb; exact ⟨by omega, fun hh => by have := hfz.lt hh; omega, by omega⟩) | (rcases hb with hb | hb <;> (subst hb; exact ⟨by omega, fun hh => by have := hfz.lt hh; omega, by omega⟩))))
              replace k17 := x19.blk.full (by first | (rw [hz17]; rfl) | (rw [List.size_toArray, wL_len, wL_len]))
              replace U := U.st x19 (.inr f17)
              replace V11 := V11.st x19 (by omega)
              refine ⟨.inl rfl, ?_⟩
              refine tl4 0 2 3 4 (gS rfl (gS rfl (gS rfl (gS rfl (gS rfl (gS rfl (gS rfl (gS rfl (gS rfl (gS rfl (gS rfl (gS rfl (gS rfl g0))))))))))))) (gS rfl (gS rfl (gS rfl (gS rfl (gS rfl (gS rfl (gS rfl (gS rfl (gS rfl (gS rfl (gS rfl (gS rfl g0)))))))))))) (gS rfl (gS rfl (gS rfl (gS rfl (gS rfl (gS rfl (gS rfl (gS rfl (gS rfl (gS rfl (gS rfl g0))))))))))) (gS rfl g0) (fun g => ?_)
              exact ⟨g, _, rfl, V11, Nat.le_trans hu.size fS17, k17⟩
          intro s_ w20 hJ
          obtain ⟨g, b12, rfl, V11, fn12, kn12⟩ := hJ
          subst e0 e2 e3
          have d8_12 : b8 < b12 := Nat.lt_of_lt_of_le k8.lt fn12
          have f12 : w.heap.size ≤ b12 := Nat.le_trans U.size fn12
          replace k8 := k8.up V11
          replace hX := hX.up V11
          replace U := U.tr V11
          have k12 := kn12
          have nc12 := hnw1 b12 fn12
          refine hK10 _ _ ?_
          refine c_seq (fun K21 hK21 => ?_)
          refine c_seq (fun K22 hK22 => ?_)
          exact (by
            refine c_region ?_
            refine l_step (y_moveV (et (gS rfl (gS rfl (gS rfl g0))) rfl)) ?_
            refine l_eff (e_callV cal_108 (aC (et g0 rfl) aN) (m_opcode hX.ex hs hp)) (fun v23 w23 h23 => ?_)
            obtain ⟨rfl, u23⟩ := h23
            replace k8 := k8.up u23
            replace k12 := k12.up u23
            replace hX := hX.up u23
            replace U := U.tr u23
            refine l_step (y_eql (et g0 rfl) rfl) ?_
            refine l_nil ?_
            refine hK22 _ _ ?_
            refine fg5 0 2 3 4 25 (gS rfl (gS rfl (gS rfl (gS rfl (gS rfl (gS rfl g0)))))) (gS rfl (gS rfl (gS rfl (gS rfl (gS rfl g0))))) (gS rfl (gS rfl (gS rfl (gS rfl g0)))) (gS rfl (gS rfl (gS rfl g0))) g0 (fun g => ?_)
            refine c_false (et g0 rfl) (by (exact decide_eq_false (by omega))) ?_
            refine c_skip ?_
            refine hK21 _ _ ?_
            refine fg4 0 2 3 4 (gS rfl (gS rfl (gS rfl (gS rfl g0)))) (gS rfl (gS rfl (gS rfl g0))) (gS rfl (gS rfl g0)) (gS rfl g0) (fun g => ?_)
            refine c_seq (fun K25 hK25 => ?_)
            refine c_seq (fun K26 hK26 => ?_)
            exact (by
              refine c_region ?_
              refine l_step (y_moveV (et (gS rfl (gS rfl (gS rfl g0))) rfl)) ?_
              refine l_step (y_moveV (et (gS rfl (gS rfl (gS rfl g0))) rfl)) ?_
              refine l_eff (e_callV cal_264 (aC (et (gS rfl g0) rfl) (aC (et g0 rfl) (aC (v := .int .i64 ((1 : Nat) : Int)) rfl aN))) (m_arg hX.ex hs hp (by first | exact hpf | rfl) _ (by decide))) (fun v27 w27 h27 => ?_)
              obtain ⟨rfl, u27⟩ := h27
              replace k8 := k8.up u27
              replace k12 := k12.up u27
              replace hX := hX.up u27
              replace U := U.tr u27
              refine l_eff (e_alloc zr_65) (fun v28 w28 h28 => ?_)
              obtain ⟨b28, rfl, n28⟩ := h28
              have d8_28 : b8 < b28 := Nat.lt_of_lt_of_le k8.lt n28.fresh
              have d12_28 : b12 < b28 := Nat.lt_of_lt_of_le k12.lt n28.fresh
              have f28 : w.heap.size ≤ b28 := Nat.le_trans U.size n28.fresh
              replace k8 := k8.up n28.up
              replace k12 := k12.up n28.up
              replace hX := hX.up n28.up
              replace U := U.tr n28.up
              have k28 := n28.blk
              obtain ⟨zs28, hz28, k28⟩ : ∃ cs : Array Value, cs.size = 4 ∧ Blk w28 b28 cs := ⟨_, rfl, k28⟩
              have nc28 : col b28 = 0 := hnw _ f28
              refine l_effN (e_store sz_65 (et g0 rfl) (cellsV (et (gS rfl g0) rfl) rfl) rfl (by exact one_uL _) k28 (by (first | (rw [hz28]; exact Nat.le_refl _) | (rw [List.size_toArray, wL_len]; exact Nat.le_refl _)))) (fun v29 w29 h29 => ?_)
              obtain ⟨rfl, x29⟩ := h29
              replace k8 := k8.ch x29.ch (by omega)
              replace k12 := k12.ch x29.ch (by omega)
              replace hX := hX.ch x29.ch (by first | omega | (intro b hb; first | (subst hb; exact ⟨by omega, fun hh => by have := hfz.lt hh; omega, by omega⟩) | (rcases hb with hb | hb <;> (subst hb; exact ⟨by omega, fun hh => by have := hfz.lt hh; omega, by omega⟩))))
              replace k28 := x29.blk.full (by first | (rw [hz28]; rfl) | (rw [List.size_toArray, wL_len, wL_len]))
              replace U := U.st x29 (.inr f28)
              refine l_nil ?_
              refine hK26 _ _ ?_
              refine fg5 0 2 3 4 5 (gS rfl (gS rfl (gS rfl (gS rfl (gS rfl (gS rfl (gS rfl g0))))))) (gS rfl (gS rfl (gS rfl (gS rfl (gS rfl (gS rfl g0)))))) (gS rfl (gS rfl (gS rfl (gS rfl (gS rfl g0))))) (gS rfl (gS rfl (gS rfl (gS rfl g0)))) g0 (fun g => ?_)
              refine c_seq (fun K30 hK30 => ?_)
              exact (by
                refine c_draw (SXL _ bc _) 17 [(0, true), (1, true), (2, true), (3, true), (4, true), (5, true), (6, true), (7, true), (8, true), (9, true), (10, true), (11, true), (12, true), (13, true), (14, false), (15, true), (16, true)] (by kernel_rfl) (fun w31 hu => ⟨SXL.refl (hX.up hu), ?_⟩)
                replace k8 := k8.up hu
                replace k12 := k12.up hu
                replace k28 := k28.up hu
                replace hX := hX.up hu
                replace U := U.tr hu
                have SU := SXL.refl hX
                have cq := cq_refl hX
                have hX_s := hX
                have k8_s := k8
                have k12_s := k12
                have k28_s := k28
                refine p_step (by exact rfl) (y_loadB agg_65 sz_65 (et g0 rfl) rfl (toL (atXB k28_s (by omega)))) ?_
                refine p_step (by exact rfl) (y_loadB agg_65 sz_65 (et (gS rfl (gS rfl g0)) rfl) rfl (toL (atXB k12_s (by omega)))) ?_
                refine p_step (by exact rfl) (y_neqW (argN_lt hB _) (tri_lt hE _ _) (et (gS rfl g0) rfl) (et g0 rfl)) ?_
                refine p_step (by exact rfl) (y_moveV (et g0 rfl)) ?_
                refine gsplitP (i := 36) g0 (fun q32 => ?_) (fun q32 => ?_)
                · skip
                  skip
                  refine p_gstep (j := 3) (t := 36) (by exact rfl) (by exact rfl) (by exact rfl) (et g0 rfl) rfl (y_moveV (et (gS rfl (gS rfl (gS rfl (gS rfl (gS rfl (gS rfl (gS rfl (gS rfl (gS rfl g0))))))))) rfl)) ?_
                  refine p_gstep (j := 3) (t := 36) (by exact rfl) (by exact rfl) (by exact rfl) (et (gS rfl g0) rfl) rfl (y_nil (et g0 rfl)) ?_
                  refine p_gstep (j := 3) (t := 36) (by exact rfl) (by exact rfl) (by exact rfl) (et (gS rfl (gS rfl g0)) rfl) rfl (y_fld fld_75_0 (et g0 rfl)) ?_
                  refine p_gstep (j := 3) (t := 36) (by exact rfl) (by exact rfl) (by exact rfl) (et (gS rfl (gS rfl (gS rfl g0))) rfl) rfl (y_load1 one_59 (et g0 rfl) (atXLP)) ?_
                  refine p_gstep (j := 3) (t := 36) (by exact rfl) (by exact rfl) (by exact rfl) (et (gS rfl (gS rfl (gS rfl (gS rfl g0)))) rfl) rfl (y_moveV (et (gS rfl (gS rfl (gS rfl (gS rfl (gS rfl (gS rfl (gS rfl (gS rfl (gS rfl (gS rfl (gS rfl (gS rfl g0)))))))))))) rfl)) ?_
                  refine p_gstep (j := 3) (t := 36) (by exact rfl) (by exact rfl) (by exact rfl) (et (gS rfl (gS rfl (gS rfl (gS rfl (gS rfl g0))))) rfl) rfl (y_nil (et g0 rfl)) ?_
                  refine p_gstep (j := 3) (t := 36) (by exact rfl) (by exact rfl) (by exact rfl) (et (gS rfl (gS rfl (gS rfl (gS rfl (gS rfl (gS rfl g0)))))) rfl) rfl (y_fld fld_71_9 (et g0 rfl)) ?_
                  refine p_gstep (j := 3) (t := 36) (by exact rfl) (by exact rfl) (by exact rfl) (et (gS rfl (gS rfl (gS rfl (gS rfl (gS rfl (gS rfl (gS rfl g0))))))) rfl) rfl (y_loadR agg_25 sz_25 (et g0 rfl) (by rw [length_bL, length_be]) (atXLR hR.r2 (by omega) (by rw [length_bL, length_be]; omega))) ?_
                  refine p_gstep (j := 3) (t := 36) (by exact rfl) (by exact rfl) (by exact rfl) (et (gS rfl (gS rfl (gS rfl (gS rfl (gS rfl (gS rfl (gS rfl (gS rfl g0)))))))) rfl) rfl (y_loadB agg_65 sz_65 (et (gS rfl (gS rfl (gS rfl (gS rfl (gS rfl (gS rfl (gS rfl (gS rfl (gS rfl (gS rfl (gS rfl (gS rfl (gS rfl (gS rfl (gS rfl g0))))))))))))))) rfl) rfl (toL (atXB k8_s (by omega)))) ?_
                  refine p_gstep (j := 3) (t := 36) (by exact rfl) (by exact rfl) (by exact rfl) (et (gS rfl (gS rfl (gS rfl (gS rfl (gS rfl (gS rfl (gS rfl (gS rfl (gS rfl g0))))))))) rfl) rfl (y_loadB agg_65 sz_65 (et (gS rfl (gS rfl (gS rfl (gS rfl (gS rfl (gS rfl (gS rfl (gS rfl (gS rfl (gS rfl (gS rfl (gS rfl (gS rfl (gS rfl g0)))))))))))))) rfl) rfl (toL (atXB k28_s (by omega)))) ?_
                  refine p_geff (j := 3) (t := 36) (by exact rfl) (by exact rfl) (by exact rfl) (et (gS rfl (gS rfl (gS rfl (gS rfl (gS rfl (gS rfl (gS rfl (gS rfl (gS rfl (gS rfl g0)))))))))) rfl) rfl (e_callV cal_311 (aC (et (gS rfl (gS rfl (gS rfl (gS rfl (gS rfl (gS rfl g0)))))) rfl) (aC (et (gS rfl (gS rfl g0)) rfl) (aC (et (gS rfl g0) rfl) (aC (et g0 rfl) aN)))) (v_tstore hX.ex.vl hX.ex.ok f.self (argN f.stack 0) hB.self (argN_lt hB _) (argN f.stack 1) (argN_lt hB _) 0 nt9 (.inl ⟨(hE.px.has f (by rw [hs]; simp)).1, rfl⟩) hnt9 hro.j)) (fun v33 w33 h33 => ?_)
                  obtain ⟨rfl, cl33, cs33, V33, t33, ok33, js33⟩ := h33
                  have nc8 := (t33.col b8 k8.lt).trans nc8
                  have nc12 := (t33.col b12 k12.lt).trans nc12
                  have nc28 := (t33.col b28 k28.lt).trans nc28
                  have kp33 := hX.ex.vl.kC
                  replace k8 := k8.ch t33.go.ch (by intro hm; (have e0 := hm); omega)
                  replace k12 := k12.ch t33.go.ch (by intro hm; (have e0 := hm); omega)
                  replace k28 := k28.ch t33.go.ch (by intro hm; (have e0 := hm); omega)
                  replace hX := hX.vt0 t33 ok33 js33 (ay_temp s.now f.self (argN f.stack 0) (argN f.stack 1)) (fun _ => rfl) (c' := c') (by omega)
                  replace U := U.cc t33.go.ch (by intro b hb; exact .inl trivial)
                  have cq9 := SU.ch.size
                  replace SU := SU.xc t33 kp33 (hX.ex.vl.c1 hX.ex.lx.pS rfl) (by intro b hlt hb; have h9 := cq b hlt; have e0 := hb; first | omega | (dsimp only at e0; omega))
                  replace cq := cq_step cq t33.col cq9
                  refine ⟨.inr SU, ?_⟩
                  refine p_gstep (j := 3) (t := 36) (by exact rfl) (by exact rfl) (by exact rfl) (et (gS rfl (gS rfl (gS rfl (gS rfl (gS rfl (gS rfl (gS rfl (gS rfl (gS rfl (gS rfl (gS rfl g0))))))))))) rfl) rfl (y_not (et g0 rfl)) ?_
                  refine p_step (by exact rfl) (y_pickT (et (gS rfl (gS rfl (gS rfl (gS rfl (gS rfl (gS rfl (gS rfl (gS rfl (gS rfl (gS rfl (gS rfl (gS rfl g0)))))))))))) rfl) (et g0 rfl)) ?_
                  refine p_nil ?_
                  refine hK30 _ _ ?_
                  refine fg3 0 2 49 (gS rfl (gS rfl (gS rfl (gS rfl (gS rfl (gS rfl (gS rfl (gS rfl (gS rfl (gS rfl (gS rfl (gS rfl (gS rfl (gS rfl (gS rfl (gS rfl (gS rfl (gS rfl (gS rfl (gS rfl (gS rfl (gS rfl g0)))))))))))))))))))))) (gS rfl (gS rfl (gS rfl (gS rfl (gS rfl (gS rfl (gS rfl (gS rfl (gS rfl (gS rfl (gS rfl (gS rfl (gS rfl (gS rfl (gS rfl (gS rfl (gS rfl (gS rfl (gS rfl (gS rfl (gS rfl g0))))))))))))))))))))) g0 (fun g => ?_)
                  refine c_false (et g0 rfl) (by rfl) ?_
                  refine c_skip ?_
                  refine hK25 _ _ ?_
                  refine fg2 0 2 (gS rfl (gS rfl g0)) (gS rfl g0) (fun g => ?_)
                  exact (by
                    refine c_region ?_
                    refine l_step (y_moveV (et (gS rfl g0) rfl)) ?_
                    refine l_step (y_moveV (et (gS rfl g0) rfl)) ?_
                    refine l_step (y_bld bN bld65_z) ?_
                    refine l_eff (e_callV cal_259 (aC (et (gS rfl (gS rfl g0)) rfl) (aC (et (gS rfl g0) rfl) (aC (v := .int .u16 ((2 : Nat) : Int)) rfl (aC rfl (aC (et g0 rfl) (aC (v := .int .u16 ((1 : Nat) : Int)) rfl aN)))))) (m_settle0 hX.ex hs hp rfl 2 0 1 (by omega) (by decide) (by omega))) (fun v35 w35 h35 => ?_)
                    obtain ⟨rfl, cs35, y35⟩ := h35
                    replace k8 := k8.ch y35.et.go.ch (by intro hm; (have e0 := hm); omega)
                    replace k12 := k12.ch y35.et.go.ch (by intro hm; (have e0 := hm); omega)
                    replace k28 := k28.ch y35.et.go.ch (by intro hm; (have e0 := hm); omega)
                    replace hX := hX.trans y35
                    replace U := U.cc y35.et.go.ch (by intro b hb; exact .inl trivial)
                    refine l_nil ?_
                    refine end0 rfl ?_
                    exact ⟨rfl, _, _, _, hX⟩)
                · skip
                  have heq9 : triAt s.now.temps f.self (argN f.stack 0) = argN f.stack 1 := by have := of_decide_eq_false q32; omega
                  refine p_gskip (j := 3) (t := 36) (by exact rfl) (by exact rfl) (by exact rfl) (et g0 rfl) rfl rfl ?_
                  refine p_gskip (j := 3) (t := 36) (by exact rfl) (by exact rfl) (by exact rfl) (et (gS rfl g0) rfl) rfl rfl ?_
                  refine p_gskip (j := 3) (t := 36) (by exact rfl) (by exact rfl) (by exact rfl) (et (gS rfl (gS rfl g0)) rfl) rfl rfl ?_
                  refine p_gskip (j := 3) (t := 36) (by exact rfl) (by exact rfl) (by exact rfl) (et (gS rfl (gS rfl (gS rfl g0))) rfl) rfl rfl ?_
                  refine p_gskip (j := 3) (t := 36) (by exact rfl) (by exact rfl) (by exact rfl) (et (gS rfl (gS rfl (gS rfl (gS rfl g0)))) rfl) rfl rfl ?_
                  refine p_gskip (j := 3) (t := 36) (by exact rfl) (by exact rfl) (by exact rfl) (et (gS rfl (gS rfl (gS rfl (gS rfl (gS rfl g0))))) rfl) rfl rfl ?_
                  refine p_gskip (j := 3) (t := 36) (by exact rfl) (by exact rfl) (by exact rfl) (et (gS rfl (gS rfl (gS rfl (gS rfl (gS rfl (gS rfl g0)))))) rfl) rfl rfl ?_
                  refine p_gskip (j := 3) (t := 36) (by exact rfl) (by exact rfl) (by exact rfl) (et (gS rfl (gS rfl (gS rfl (gS rfl (gS rfl (gS rfl (gS rfl g0))))))) rfl) rfl rfl ?_
                  refine p_gskip (j := 3) (t := 36) (by exact rfl) (by exact rfl) (by exact rfl) (et (gS rfl (gS rfl (gS rfl (gS rfl (gS rfl (gS rfl (gS rfl (gS rfl g0)))))))) rfl) rfl rfl ?_
                  refine p_gskip (j := 3) (t := 36) (by exact rfl) (by exact rfl) (by exact rfl) (et (gS rfl (gS rfl (gS rfl (gS rfl (gS rfl (gS rfl (gS rfl (gS rfl (gS rfl g0))))))))) rfl) rfl rfl ?_
                  refine p_geskip (j := 3) (t := 36) (by exact rfl) (by exact rfl) (by exact rfl) (et (gS rfl (gS rfl (gS rfl (gS rfl (gS rfl (gS rfl (gS rfl (gS rfl (gS rfl (gS rfl g0)))))))))) rfl) rfl rfl ⟨.inr SU, ?_⟩
                  refine p_gskip (j := 3) (t := 36) (by exact rfl) (by exact rfl) (by exact rfl) (et (gS rfl (gS rfl (gS rfl (gS rfl (gS rfl (gS rfl (gS rfl (gS rfl (gS rfl (gS rfl (gS rfl g0))))))))))) rfl) rfl rfl ?_
                  refine p_step (by exact rfl) (y_pickF (et (gS rfl (gS rfl (gS rfl (gS rfl (gS rfl (gS rfl (gS rfl (gS rfl (gS rfl (gS rfl (gS rfl (gS rfl g0)))))))))))) rfl) rfl) ?_
                  refine p_nil ?_
                  refine hK30 _ _ ?_
                  refine fg3 0 2 49 (gS rfl (gS rfl (gS rfl (gS rfl (gS rfl (gS rfl (gS rfl (gS rfl (gS rfl (gS rfl (gS rfl (gS rfl (gS rfl (gS rfl (gS rfl (gS rfl (gS rfl (gS rfl (gS rfl (gS rfl (gS rfl (gS rfl g0)))))))))))))))))))))) (gS rfl (gS rfl (gS rfl (gS rfl (gS rfl (gS rfl (gS rfl (gS rfl (gS rfl (gS rfl (gS rfl (gS rfl (gS rfl (gS rfl (gS rfl (gS rfl (gS rfl (gS rfl (gS rfl (gS rfl (gS rfl g0))))))))))))))))))))) g0 (fun g => ?_)
                  refine c_false (et g0 rfl) rfl ?_
                  refine c_skip ?_
                  refine hK25 _ _ ?_
                  refine fg2 0 2 (gS rfl (gS rfl g0)) (gS rfl g0) (fun g => ?_)
                  exact (by
                    refine c_region ?_
                    refine l_step (y_moveV (et (gS rfl g0) rfl)) ?_
                    refine l_step (y_moveV (et (gS rfl g0) rfl)) ?_
                    refine l_step (y_bld bN bld65_z) ?_
                    refine l_eff (e_callV cal_259 (aC (et (gS rfl (gS rfl g0)) rfl) (aC (et (gS rfl g0) rfl) (aC (v := .int .u16 ((2 : Nat) : Int)) rfl (aC rfl (aC (et g0 rfl) (aC (v := .int .u16 ((1 : Nat) : Int)) rfl aN)))))) (m_settle0 hX.ex hs hp rfl 2 0 1 (by omega) (by decide) (by omega))) (fun v37 w37 h37 => ?_)
                    obtain ⟨rfl, cs37, y37⟩ := h37
                    replace k8 := k8.ch y37.et.go.ch (by intro hm; (have e0 := hm); omega)
                    replace k12 := k12.ch y37.et.go.ch (by intro hm; (have e0 := hm); omega)
                    replace k28 := k28.ch y37.et.go.ch (by intro hm; (have e0 := hm); omega)
                    replace hX := hX.trans y37
                    replace U := U.cc y37.et.go.ch (by intro b hb; exact .inl trivial)
                    refine l_nil ?_
                    refine end0 rfl ?_
                    exact ⟨rfl, _, _, _, (hX.now (by rw [ay_temp, fset2_self (absY s.now).temp heq9])).slack (by omega)⟩))))))))
end Go.Proofs.YgvaawGreat
