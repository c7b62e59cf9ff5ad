import Derived.Test.YgvaawGreatW15
set_option maxRecDepth 100000
set_option maxHeartbeats 4000000
set_option linter.unusedSimpArgs false
set_option linter.unusedVariables false
namespace Go.Proofs.YgvaawGreat
open Go
section
variable {w0 w w' : World} {H0 H H' : Store} {col0 col : Nat → Nat} {bc : Nat} {cs : Array Value} {V : EV} {ms : List (List Nat)}
theorem spl_id {o : Nat} {v : Value} (h : cs[o]? = some v) : spl cs o [v] = cs := by
  apply Array.ext_getElem?
  intro i
  have hlt := (Array.getElem?_eq_some_iff.1 h).1
  by_cases e : i = o
  · subst e; rw [h]; exact sp0 hlt
  · exact sp1 e
theorem XR.mt0 (h : XR w0 H0 col0 w H col bc cs V []) (x : Wr w w' bc (spl cs 10 [.int .u8 (0 : Nat)])) : XR w0 H0 col0 w' H col bc (spl cs 10 [.int .u8 (0 : Nat)]) V [] := by
  obtain ⟨bm, cm, n, hm⟩ := h.mx
  have hv := h.vl.low x (by decide)
  have hC := h.vl.colC
  refine ⟨hv, h.ok, ⟨bm, cm, n, ?_⟩, h.et.wrC x.ch h.vl.colC hv.fz⟩
  have e9 : cs[10]? = some (.int .u8 (0 : Nat)) := hm.tp
  rw [spl_id e9]
  exact hm.ch x.ch (fun h8 e => by rw [e] at h8; omega)
theorem XR.gn (h : XR w0 H0 col0 w H col bc cs V ms) (g : Go No w H w' H') : XR w0 H0 col0 w' H' col bc cs V ms := by
  obtain ⟨bm, cm, n, h1⟩ := h.mx
  exact ⟨h.vl.go g (fun _ h => h.elim), h.ok, ⟨bm, cm, n, h1.up g.up⟩, h.et.go.tr g, h.et.col⟩
theorem XR.trans {w1 : World} {H1 : Store} {col1 : Nat → Nat} {cs1 : Array Value} {V1 : EV} {ms1 : List (List Nat)} (h : XR w0 H0 col0 w H col bc cs V ms) (g : XR w H col w1 H1 col1 bc cs1 V1 ms1) : XR w0 H0 col0 w1 H1 col1 bc cs1 V1 ms1 := ⟨g.vl, g.ok, g.mx, h.et.trans g.et⟩
theorem XR.refl (hv : VL w H col bc cs V) (ho : VOk V) (hm : ∃ bm cm n, MA w col cs ms bm cm n) : XR w H col w H col bc cs V ms := ⟨hv, ho, hm, Go.refl hv.fz, fun _ _ => rfl⟩
end
theorem bld25_z (w : World) : (Instr.build 25 ([] : List (Nat × Value)).toArray).run Hvaa.prog w = .ok (aV 0) w := by kernel_rfl
def rstQ (q : LQ) : LQ := { q with ph := 0, ss := 0, li := 0, tg := some 0, hd := some 0, pr := 0, og := 0, md := 0, rt := [] }
theorem e_rest {w : World} {H : Store} {col : Nat → Nat} {bc : Nat} {cs : Array Value} {V : EV} (hX : XR w H col w H col bc cs V []) {q : LQ} (hL : LO H cs bc q) :
    Ret 39 [.pointer (some ⟨bc, 0, none⟩)] w (fun v w' => v = .tuple #[] ∧ ∃ col' cs', XR w H col w' H col' bc cs' (endV V) [] ∧ LO H cs' bc (rstQ q)) := by
  have hnw := hX.vl.new
  have hfz := hX.vl.fz
  refine enter (n := 45) Hvaa.func39 rfl rfl (Nat.le_of_ble_eq_true rfl) ?_
  have U : Ch (fun _ => True) w w := Ch.refl _ w
  refine c_seq (fun K1 hK1 => ?_)
  exact (by
    refine c_region ?_
    refine l_step (y_moveV (et g0 rfl)) ?_
    refine l_step (y_nil (et g0 rfl)) ?_
    refine l_step (y_fld fld_75_0 (et g0 rfl)) ?_
    refine l_step (y_load1 one_59 (et g0 rfl) (at1 (hX.vl.c1 hL.pS rfl))) ?_
    refine l_eff (e_callV cal_119 (aC (et g0 rfl) aN) (v_endTx hX.vl hX.ok)) (fun v2 w2 h2 => ?_)
    obtain ⟨rfl, cl2, cs2, t2⟩ := h2
    replace hX := hX.vt t2 (end_ok hX.ok)
    replace U := U.cc t2.go.ch (by intro b hb; exact .inl trivial)
    replace hL := (hL.mono t2.go.le).out t2.out (.inl (by decide))
    refine l_nil ?_
    refine hK1 _ _ ?_
    refine fg1 0 (gS rfl (gS rfl (gS rfl (gS rfl (gS rfl g0))))) (fun g => ?_)
    refine c_seq (fun K3 hK3 => ?_)
    exact (by
      refine c_region ?_
      refine l_step (y_moveV (et g0 rfl)) ?_
      refine l_step (y_nil (et g0 rfl)) ?_
      refine l_step (y_fld fld_75_9 (et g0 rfl)) ?_
      refine l_effN (e_store sz_5 (et g0 rfl) (cellsV rfl rfl) rfl (by intro v hv; simp at hv; subst hv; rfl) hX.vl.kC (by rw [hX.vl.size]; omega)) (fun v4 w4 h4 => ?_)
      obtain ⟨rfl, x4⟩ := h4
      have hv4 := hX.st x4 (by decide) (Nat.le_of_ble_eq_true rfl)
      replace hX := hv4
      replace U := U.cc x4.ch (by intro b hb; exact .inl trivial)
      replace hL := hL.stPh 0
      refine l_nil ?_
      refine hK3 _ _ ?_
      refine fg1 0 (gS rfl (gS rfl (gS rfl g0))) (fun g => ?_)
      refine c_seq (fun K5 hK5 => ?_)
      exact (by
        refine c_region ?_
        refine l_step (y_moveV (et g0 rfl)) ?_
        refine l_step (y_nil (et g0 rfl)) ?_
        refine l_step (y_fld fld_75_10 (et g0 rfl)) ?_
        refine l_effN (e_store sz_5 (et g0 rfl) (cellsV rfl rfl) rfl (by intro v hv; simp at hv; subst hv; rfl) hX.vl.kC (by rw [hX.vl.size]; omega)) (fun v6 w6 h6 => ?_)
        obtain ⟨rfl, x6⟩ := h6
        have hv6 := hX.st x6 (by decide) (Nat.le_of_ble_eq_true rfl)
        replace hX := hv6
        replace U := U.cc x6.ch (by intro b hb; exact .inl trivial)
        replace hL := hL.stSs 0
        refine l_nil ?_
        refine hK5 _ _ ?_
        refine fg1 0 (gS rfl (gS rfl (gS rfl g0))) (fun g => ?_)
        refine c_seq (fun K7 hK7 => ?_)
        exact (by
          refine c_region ?_
          refine l_step (y_moveV (et g0 rfl)) ?_
          refine l_step (y_nil (et g0 rfl)) ?_
          refine l_step (y_fld fld_75_12 (et g0 rfl)) ?_
          refine l_effN (e_store sz_26 (et g0 rfl) (cellsV rfl rfl) rfl (by intro v hv; simp at hv; subst hv; rfl) hX.vl.kC (by rw [hX.vl.size]; omega)) (fun v8 w8 h8 => ?_)
          obtain ⟨rfl, x8⟩ := h8
          have hv8 := hX.st x8 (by decide) (Nat.le_of_ble_eq_true rfl)
          replace hX := hv8
          replace U := U.cc x8.ch (by intro b hb; exact .inl trivial)
          replace hL := hL.stLi 0
          refine l_nil ?_
          refine hK7 _ _ ?_
          refine fg1 0 (gS rfl (gS rfl (gS rfl g0))) (fun g => ?_)
          refine c_seq (fun K9 hK9 => ?_)
          exact (by
            refine c_region ?_
            refine l_step (y_moveV (et g0 rfl)) ?_
            refine l_step (y_nil (et g0 rfl)) ?_
            refine l_step (y_fld fld_75_13 (et g0 rfl)) ?_
            refine l_effN (e_store sz_26 (et g0 rfl) (cellsV rfl rfl) rfl (by intro v hv; simp at hv; subst hv; rfl) hX.vl.kC (by rw [hX.vl.size]; omega)) (fun v10 w10 h10 => ?_)
            obtain ⟨rfl, x10⟩ := h10
            have hv10 := hX.st x10 (by decide) (Nat.le_of_ble_eq_true rfl)
            replace hX := hv10
            replace U := U.cc x10.ch (by intro b hb; exact .inl trivial)
            replace hL := hL.stTg 0
            refine l_nil ?_
            refine hK9 _ _ ?_
            refine fg1 0 (gS rfl (gS rfl (gS rfl g0))) (fun g => ?_)
            refine c_seq (fun K11 hK11 => ?_)
            exact (by
              refine c_region ?_
              refine l_step (y_moveV (et g0 rfl)) ?_
              refine l_step (y_bld bN bld65_z) ?_
              refine l_step (y_nil (et (gS rfl g0) rfl)) ?_
              refine l_step (y_fld fld_75_14 (et g0 rfl)) ?_
              refine l_effN (e_store sz_65 (et g0 rfl) (cellsV (et (gS rfl (gS rfl g0)) rfl) rfl) rfl (by exact one_uL _) hX.vl.kC (by rw [hX.vl.size]; omega)) (fun v12 w12 h12 => ?_)
              obtain ⟨rfl, x12⟩ := h12
              have hv12 := hX.st x12 (by decide) (Nat.le_of_ble_eq_true rfl)
              replace hX := hv12
              replace U := U.cc x12.ch (by intro b hb; exact .inl trivial)
              replace hL := hL.stHd 0
              refine l_nil ?_
              refine hK11 _ _ ?_
              refine fg1 0 (gS rfl (gS rfl (gS rfl (gS rfl g0)))) (fun g => ?_)
              refine c_seq (fun K13 hK13 => ?_)
              exact (by
                refine c_region ?_
                refine l_step (y_moveV (et g0 rfl)) ?_
                refine l_step (y_bld bN bld65_z) ?_
                refine l_step (y_nil (et (gS rfl g0) rfl)) ?_
                refine l_step (y_fld fld_75_8 (et g0 rfl)) ?_
                refine l_effN (e_store sz_65 (et g0 rfl) (cellsV (et (gS rfl (gS rfl g0)) rfl) rfl) rfl (by exact one_uL _) hX.vl.kC (by rw [hX.vl.size]; omega)) (fun v14 w14 h14 => ?_)
                obtain ⟨rfl, x14⟩ := h14
                have hv14 := hX.st x14 (by decide) (Nat.le_of_ble_eq_true rfl)
                replace hX := hv14
                replace U := U.cc x14.ch (by intro b hb; exact .inl trivial)
                replace hL := hL.stPr 0
                refine l_nil ?_
                refine hK13 _ _ ?_
                refine fg1 0 (gS rfl (gS rfl (gS rfl (gS rfl g0)))) (fun g => ?_)
                refine c_seq (fun K15 hK15 => ?_)
                exact (by
                  refine c_region ?_
                  refine l_step (y_moveV (et g0 rfl)) ?_
                  refine l_step (y_bld bN bld25_z) ?_
                  refine l_step (y_nil (et (gS rfl g0) rfl)) ?_
                  refine l_step (y_fld fld_75_7 (et g0 rfl)) ?_
                  refine l_effN (e_store sz_25 (et g0 rfl) (cellsV (et (gS rfl (gS rfl g0)) rfl) rfl) rfl (by exact one_bL _) hX.vl.kC (by rw [hX.vl.size]; omega)) (fun v16 w16 h16 => ?_)
                  obtain ⟨rfl, x16⟩ := h16
                  have hv16 := hX.st x16 (by decide) (by rw [length_bL, length_be]; decide)
                  replace hX := hv16
                  replace U := U.cc x16.ch (by intro b hb; exact .inl trivial)
                  replace hL := hL.stOg 0
                  refine l_nil ?_
                  refine hK15 _ _ ?_
                  refine fg1 0 (gS rfl (gS rfl (gS rfl (gS rfl g0)))) (fun g => ?_)
                  refine c_seq (fun K17 hK17 => ?_)
                  exact (by
                    refine c_region ?_
                    refine l_step (y_moveV (et g0 rfl)) ?_
                    refine l_step (y_bld bN bld25_z) ?_
                    refine l_step (y_nil (et (gS rfl g0) rfl)) ?_
                    refine l_step (y_fld fld_75_17 (et g0 rfl)) ?_
                    refine l_effN (e_store sz_25 (et g0 rfl) (cellsV (et (gS rfl (gS rfl g0)) rfl) rfl) rfl (by exact one_bL _) hX.vl.kC (by rw [hX.vl.size]; omega)) (fun v18 w18 h18 => ?_)
                    obtain ⟨rfl, x18⟩ := h18
                    have hv18 := hX.st x18 (by decide) (by rw [length_bL, length_be]; decide)
                    replace hX := hv18
                    replace U := U.cc x18.ch (by intro b hb; exact .inl trivial)
                    replace hL := hL.stMd 0
                    refine l_nil ?_
                    refine hK17 _ _ ?_
                    refine fg1 0 (gS rfl (gS rfl (gS rfl (gS rfl g0)))) (fun g => ?_)
                    refine c_seq (fun K19 hK19 => ?_)
                    exact (by
                      refine c_region ?_
                      refine l_step (y_moveV (et g0 rfl)) ?_
                      refine l_step (y_nil (et g0 rfl)) ?_
                      refine l_step (y_fld fld_75_5 (et g0 rfl)) ?_
                      refine l_effN (e_store sz_38 (et g0 rfl) (cellsV rfl rfl) rfl (by intro v hv; simp at hv; subst hv; rfl) hX.vl.kC (by rw [hX.vl.size]; omega)) (fun v20 w20 h20 => ?_)
                      obtain ⟨rfl, x20⟩ := h20
                      have hv20 := hX.st x20 (by decide) (Nat.le_of_ble_eq_true rfl)
                      replace hX := hv20
                      replace U := U.cc x20.ch (by intro b hb; exact .inl trivial)
                      replace hL := hL.stRt (l := []) (BV.nil _)
                      refine l_nil ?_
                      refine hK19 _ _ ?_
                      refine fg1 0 (gS rfl (gS rfl (gS rfl g0))) (fun g => ?_)
                      refine c_seq (fun K21 hK21 => ?_)
                      exact (by
                        refine c_region ?_
                        refine l_step (y_moveV (et g0 rfl)) ?_
                        refine l_step (y_nil (et g0 rfl)) ?_
                        refine l_step (y_fld fld_75_1 (et g0 rfl)) ?_
                        refine l_step (y_fld fld_63_2 (et g0 rfl)) ?_
                        refine l_effN (e_store sz_5 (et g0 rfl) (cellsV rfl rfl) rfl (by intro v hv; simp at hv; subst hv; rfl) hX.vl.kC (by rw [hX.vl.size]; omega)) (fun v22 w22 h22 => ?_)
                        obtain ⟨rfl, x22⟩ := h22
                        have hv22 := hX.mt0 x22
                        replace hX := hv22
                        replace U := U.cc x22.ch (by intro b hb; exact .inl trivial)
                        replace hL := hL.out (Out.spl (j := 10) (o := 10) (k := 1) (vs := [.int .u8 (0 : Nat)]) (by rw [hL.size]; decide) (Nat.le_refl _) (Nat.le_refl _)) (.inr (by decide))
                        refine l_nil ?_
                        refine hK21 _ _ ?_
                        refine fg1 0 (gS rfl (gS rfl (gS rfl (gS rfl g0)))) (fun g => ?_)
                        refine c_region ?_
                        refine l_step (y_moveV (et g0 rfl)) ?_
                        refine l_step (y_nil (et g0 rfl)) ?_
                        refine l_step (y_fld fld_75_4 (et g0 rfl)) ?_
                        refine l_effN (e_store sz_73 (et g0 rfl) (cellsV rfl rfl) rfl (by intro v hv; simp at hv; subst hv; rfl) hX.vl.kC (by rw [hX.vl.size]; omega)) (fun v23 w23 h23 => ?_)
                        obtain ⟨rfl, x23⟩ := h23
                        have hv23 := hX.st x23 (by decide) (Nat.le_of_ble_eq_true rfl)
                        replace hX := hv23
                        replace U := U.cc x23.ch (by intro b hb; exact .inl trivial)
                        replace hL := hL.stTop
                        refine l_nil ?_
                        refine end0 rfl ?_
                        exact ⟨rfl, _, _, hX, hL⟩)))))))))))
end Go.Proofs.YgvaawGreat
