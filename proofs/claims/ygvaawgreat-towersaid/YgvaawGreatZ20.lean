import Derived.Test.YgvaawGreatZ19
set_option maxRecDepth 100000
set_option maxHeartbeats 4000000
set_option linter.unusedSimpArgs false
set_option linter.unusedVariables false
namespace Go.Proofs.YgvaawGreat
open Go
section
variable {w w' : World} {H : Store} {col : Nat → Nat} {bc : Nat} {cs : Array Value} {V : EV} {s : YSt} {sn : List Nat} {sv : List AW} {ms : List (List Nat)} {c : Nat} {lo : List (List Nat)} {m : List Nat}
theorem EX.mLen (hE : EX w H col bc cs V s sn sv ms c) (hms : ms = lo ++ [m]) : Ret 268 [.pointer (some ⟨bc, 1, none⟩)] w (fun v w' => v = .int .u32 (m.length : Nat) ∧ Up w w') := by
  obtain ⟨bm, cm, n, hM⟩ := hE.mx
  subst hms
  exact g_len hE.vl.kC hM hE.vl.colC
end
theorem lt_W {n : Nat} (h : n < 18446744073709551616) : n < W256 := Nat.lt_trans h (by decide)
theorem lt_A {a : Nat} (h : a < A160) : a < W256 := Nat.lt_trans h (by decide)
theorem m_opSur48 {w : World} {H : Store} {col : Nat → Nat} {bc : Nat} {cs : Array Value} {V : EV} {s : YSt} {sn : List Nat} {sv : List AW} {ms : List (List Nat)} {c : Nat} {low : List YF} {f : YF} (hE : EX w H col bc cs V s sn sv ms c) (hs : s.frames = low ++ [f]) (hp : s.phase = 1) {lo : List (List Nat)} {m : List Nat} (hms : ms = lo ++ [m]) (hq : opcN f = 48) (hpc9 : f.pc < 512) (hlt9 : f.stack.length < 64) (hor9 : s.origin < A160) (hpr9 : s.price < W256) (hrl9 : s.ret.length ≤ 717280) :
    Ret 194 [.pointer (some ⟨bc, 0, none⟩)] w (fun v w' => v = .tuple #[] ∧ ∃ cs', XT w H col w' H col bc cs' V { s with frames := low ++ [ansN f 0 (f.self)] } sn sv ms c) := by
  obtain ⟨n9, hn9, hR⟩ := hE.topF hs
  have hB := hE.fbT hs
  have h6 := hE.six hs
  have htop := hE.cTop hs
  have hphs := hE.cPh hp
  have hbp := hB.pc
  have hbs := hB.stk
  have hbg := hB.gas
  have hbc9 := hB.code
  have hnw := hE.vl.new
  have hfz := hE.vl.fz
  have hcC := hE.vl.colC
  have hbc0 := hE.vl.kC.lt
  have hX := XT.refl hE
  have hmx := hE.memMx hms
  obtain ⟨ca9, cc9, ia9, ic9, hr5, hcode, hinp⟩ := hR.r5
  obtain ⟨ra9, rc9, hret9, hrb9⟩ := hE.lx.ret
  have hbi9 := hB.input
  have hx8 : f.self < W256 := lt_A hB.self
  refine enter (n := 122) Hvaa.func194 rfl rfl (Nat.le_of_ble_eq_true rfl) ?_
  have U : Ch (fun _ => True) w w := Ch.refl _ w
  refine c_seq (fun K1 hK1 => ?_)
  exact (by
    refine c_region ?_
    refine l_step (y_moveV (et g0 rfl)) ?_
    refine l_eff (e_callV cal_183 (aC (et g0 rfl) aN) (m_running hX.ex hs hp)) (fun v2 w2 h2 => ?_)
    obtain ⟨rfl, u2⟩ := h2
    replace hX := hX.up u2
    replace U := U.tr u2
    refine l_step (y_assignV (et g0 rfl)) ?_
    refine l_nil ?_
    refine hK1 _ _ ?_
    refine fg2 0 2 (gS rfl (gS rfl (gS rfl g0))) g0 (fun g => ?_)
    refine c_seq (fun K3 hK3 => ?_)
    refine c_seq (fun K4 hK4 => ?_)
    exact (by
      refine c_region ?_
      refine l_step (y_moveV (et g0 rfl)) ?_
      refine l_step (y_eqlNil Hvaa.underlying276 (et g0 rfl) rfl) ?_
      refine l_nil ?_
      refine hK4 _ _ ?_
      refine fg3 0 2 8 (gS rfl (gS rfl (gS rfl g0))) (gS rfl (gS rfl g0)) g0 (fun g => ?_)
      refine c_false (et g0 rfl) rfl ?_
      refine c_skip ?_
      refine hK3 _ _ ?_
      refine fg2 0 2 (gS rfl (gS rfl g0)) (gS rfl g0) (fun g => ?_)
      refine c_seq (fun K6 hK6 => ?_)
      exact (by
        refine c_region ?_
        refine l_step (y_bld bN bld65_z) ?_
        refine l_eff (e_alloc zr_65) (fun v7 w7 h7 => ?_)
        obtain ⟨b7, rfl, n7⟩ := h7
        have f7 : w.heap.size ≤ b7 := Nat.le_trans U.size n7.fresh
        replace hX := hX.up n7.up
        replace U := U.tr n7.up
        have k7 := n7.blk
        obtain ⟨zs7, hz7, k7⟩ : ∃ cs : Array Value, cs.size = 4 ∧ Blk w7 b7 cs := ⟨_, rfl, k7⟩
        have nc7 : col b7 = 0 := hnw _ f7
        refine l_effN (e_store sz_65 (et g0 rfl) (cellsV (et (gS rfl g0) rfl) rfl) rfl (by exact one_uL _) k7 (by (first | (rw [hz7]; exact Nat.le_refl _) | (rw [List.size_toArray, wL_len]; exact Nat.le_refl _)))) (fun v8 w8 h8 => ?_)
        obtain ⟨rfl, x8⟩ := h8
        replace hX := hX.ch x8.ch (by first | omega | (intro b hb; first | (subst hb; first | exact ⟨by omega, fun hh => by have := hfz.lt hh; omega, by omega⟩ | exact ⟨by omega, by assumption, by omega⟩) | (rcases hb with hb | hb <;> (subst hb; first | exact ⟨by omega, fun hh => by have := hfz.lt hh; omega, by omega⟩ | exact ⟨by omega, by assumption, by omega⟩))))
        replace k7 := x8.blk.full (by first | (rw [hz7]; rfl) | (rw [List.size_toArray, wL_len, wL_len]))
        replace U := U.st x8 (.inr f7)
        refine l_nil ?_
        refine hK6 _ _ ?_
        refine fg3 0 2 3 (gS rfl (gS rfl (gS rfl g0))) (gS rfl (gS rfl g0)) g0 (fun g => ?_)
        refine c_seq (fun K9 hK9 => ?_)
        exact (by
          refine c_region ?_
          refine l_step y_assignC ?_
          refine l_nil ?_
          refine hK9 _ _ ?_
          refine c_seq (fun K10 hK10 => ?_)
          refine c_seq (fun K11 hK11 => ?_)
          exact (by
            refine c_region ?_
            refine l_step (y_moveV (et (gS rfl (gS rfl (gS rfl g0))) rfl)) ?_
            refine l_eff (e_callV cal_108 (aC (et g0 rfl) aN) (m_opcode hX.ex hs hp)) (fun v12 w12 h12 => ?_)
            obtain ⟨rfl, u12⟩ := h12
            replace k7 := k7.up u12
            replace hX := hX.up u12
            replace U := U.tr u12
            refine l_nil ?_
            refine hK11 _ _ ?_
            refine fg5 0 2 3 4 11 (gS rfl (gS rfl (gS rfl (gS rfl (gS rfl g0))))) (gS rfl (gS rfl (gS rfl (gS rfl g0)))) (gS rfl (gS rfl (gS rfl g0))) (gS rfl (gS rfl g0)) g0 (fun g => ?_)
            refine c_block (fun Q13 hQ13 => ?_)
            refine c_seq (fun K14 hK14 => ?_)
            exact (by
              refine c_region ?_
              refine l_step (y_eql (et g0 rfl) rfl) ?_
              refine l_step (y_assignV (et g0 rfl)) ?_
              refine l_nil ?_
              refine hK14 _ _ ?_
              refine fg6 0 2 3 4 11 12 (gS rfl (gS rfl (gS rfl (gS rfl (gS rfl (gS rfl g0)))))) (gS rfl (gS rfl (gS rfl (gS rfl (gS rfl g0))))) (gS rfl (gS rfl (gS rfl (gS rfl g0)))) (gS rfl (gS rfl (gS rfl g0))) (gS rfl (gS rfl g0)) g0 (fun g => ?_)
              refine c_true (et g0 rfl) (by (exact decide_eq_true (by omega))) ?_
              exact (by
                refine c_region ?_
                refine l_step (y_moveV (et (gS rfl (gS rfl (gS rfl (gS rfl g0)))) rfl)) ?_
                refine l_step (y_nil (et g0 rfl)) ?_
                refine l_step (y_fld fld_71_9 (et g0 rfl)) ?_
                refine l_step (y_loadR agg_25 sz_25 (et g0 rfl) (by rw [length_bL, length_be]) (at1R (hX.ex.vl.kC.rowO hR.r2 (by omega)))) ?_
                refine l_eff (e_callV cal_257 (aC (et g0 rfl) aN) (mach_addrWord f.self _ hB.self)) (fun v16 w16 h16 => ?_)
                obtain ⟨rfl, u16⟩ := h16
                replace k7 := k7.up u16
                replace hX := hX.up u16
                replace U := U.tr u16
                refine l_effN (e_store sz_65 (et (gS rfl (gS rfl (gS rfl (gS rfl (gS rfl (gS rfl (gS rfl (gS rfl g0)))))))) rfl) (cellsV (et g0 rfl) rfl) rfl (by exact one_uL _) k7 (by (first | (rw [hz7]; exact Nat.le_refl _) | (rw [List.size_toArray, wL_len]; exact Nat.le_refl _)))) (fun v17 w17 h17 => ?_)
                obtain ⟨rfl, x17⟩ := h17
                replace hX := hX.ch x17.ch (by first | omega | (intro b hb; first | (subst hb; first | exact ⟨by omega, fun hh => by have := hfz.lt hh; omega, by omega⟩ | exact ⟨by omega, by assumption, by omega⟩) | (rcases hb with hb | hb <;> (subst hb; first | exact ⟨by omega, fun hh => by have := hfz.lt hh; omega, by omega⟩ | exact ⟨by omega, by assumption, by omega⟩))))
                replace k7 := x17.blk.full (by first | (rw [hz7]; rfl) | (rw [List.size_toArray, wL_len, wL_len]))
                replace U := U.st x17 (.inr f7)
                refine l_nil ?_
                refine hQ13 _ _ _ (in_normal ?_)
                refine hK10 _ _ ?_
                refine fg4 0 2 3 4 (gS rfl (gS rfl (gS rfl (gS rfl (gS rfl (gS rfl (gS rfl (gS rfl (gS rfl (gS rfl g0)))))))))) (gS rfl (gS rfl (gS rfl (gS rfl (gS rfl (gS rfl (gS rfl (gS rfl (gS rfl g0))))))))) (gS rfl (gS rfl (gS rfl (gS rfl (gS rfl (gS rfl (gS rfl (gS rfl g0)))))))) (gS rfl (gS rfl (gS rfl (gS rfl (gS rfl (gS rfl (gS rfl g0))))))) (fun g => ?_)
                refine c_region ?_
                refine l_step (y_moveV (et (gS rfl (gS rfl (gS rfl g0))) rfl)) ?_
                refine l_step (y_moveV (et (gS rfl (gS rfl (gS rfl g0))) rfl)) ?_
                refine l_step (y_moveV (et (gS rfl (gS rfl g0)) rfl)) ?_
                refine l_step (y_loadB agg_65 sz_65 (et (gS rfl (gS rfl (gS rfl (gS rfl g0)))) rfl) rfl (at1B k7)) ?_
                refine l_eff (e_callV cal_259 (aC (et (gS rfl (gS rfl (gS rfl g0))) rfl) (aC (et (gS rfl (gS rfl g0)) rfl) (aC (et (gS rfl g0) rfl) (aC rfl (aC (et g0 rfl) (aC (v := .int .u16 ((1 : Nat) : Int)) rfl aN)))))) (m_settle1 hX.ex hs hp rfl 0 _ 1 (by omega) hx8 (by omega) (by omega))) (fun v18 w18 h18 => ?_)
                obtain ⟨rfl, cs18, y18⟩ := h18
                replace k7 := k7.ch y18.et.go.ch (by intro hm; (have e0 := hm); omega)
                replace hX := hX.trans y18
                replace U := U.cc y18.et.go.ch (by intro b hb; exact .inl trivial)
                refine l_nil ?_
                refine end0 rfl ?_
                exact ⟨rfl, _, hX⟩)))))))
theorem m_opSur50 {w : World} {H : Store} {col : Nat → Nat} {bc : Nat} {cs : Array Value} {V : EV} {s : YSt} {sn : List Nat} {sv : List AW} {ms : List (List Nat)} {c : Nat} {low : List YF} {f : YF} (hE : EX w H col bc cs V s sn sv ms c) (hs : s.frames = low ++ [f]) (hp : s.phase = 1) {lo : List (List Nat)} {m : List Nat} (hms : ms = lo ++ [m]) (hq : opcN f = 50) (hpc9 : f.pc < 512) (hlt9 : f.stack.length < 64) (hor9 : s.origin < A160) (hpr9 : s.price < W256) (hrl9 : s.ret.length ≤ 717280) :
    Ret 194 [.pointer (some ⟨bc, 0, none⟩)] w (fun v w' => v = .tuple #[] ∧ ∃ cs', XT w H col w' H col bc cs' V { s with frames := low ++ [ansN f 0 (s.origin)] } sn sv ms c) := by
  obtain ⟨n9, hn9, hR⟩ := hE.topF hs
  have hB := hE.fbT hs
  have h6 := hE.six hs
  have htop := hE.cTop hs
  have hphs := hE.cPh hp
  have hbp := hB.pc
  have hbs := hB.stk
  have hbg := hB.gas
  have hbc9 := hB.code
  have hnw := hE.vl.new
  have hfz := hE.vl.fz
  have hcC := hE.vl.colC
  have hbc0 := hE.vl.kC.lt
  have hX := XT.refl hE
  have hmx := hE.memMx hms
  obtain ⟨ca9, cc9, ia9, ic9, hr5, hcode, hinp⟩ := hR.r5
  obtain ⟨ra9, rc9, hret9, hrb9⟩ := hE.lx.ret
  have hbi9 := hB.input
  have hx8 : s.origin < W256 := lt_A hor9
  refine enter (n := 122) Hvaa.func194 rfl rfl (Nat.le_of_ble_eq_true rfl) ?_
  have U : Ch (fun _ => True) w w := Ch.refl _ w
  refine c_seq (fun K1 hK1 => ?_)
  exact (by
    refine c_region ?_
    refine l_step (y_moveV (et g0 rfl)) ?_
    refine l_eff (e_callV cal_183 (aC (et g0 rfl) aN) (m_running hX.ex hs hp)) (fun v2 w2 h2 => ?_)
    obtain ⟨rfl, u2⟩ := h2
    replace hX := hX.up u2
    replace U := U.tr u2
    refine l_step (y_assignV (et g0 rfl)) ?_
    refine l_nil ?_
    refine hK1 _ _ ?_
    refine fg2 0 2 (gS rfl (gS rfl (gS rfl g0))) g0 (fun g => ?_)
    refine c_seq (fun K3 hK3 => ?_)
    refine c_seq (fun K4 hK4 => ?_)
    exact (by
      refine c_region ?_
      refine l_step (y_moveV (et g0 rfl)) ?_
      refine l_step (y_eqlNil Hvaa.underlying276 (et g0 rfl) rfl) ?_
      refine l_nil ?_
      refine hK4 _ _ ?_
      refine fg3 0 2 8 (gS rfl (gS rfl (gS rfl g0))) (gS rfl (gS rfl g0)) g0 (fun g => ?_)
      refine c_false (et g0 rfl) rfl ?_
      refine c_skip ?_
      refine hK3 _ _ ?_
      refine fg2 0 2 (gS rfl (gS rfl g0)) (gS rfl g0) (fun g => ?_)
      refine c_seq (fun K6 hK6 => ?_)
      exact (by
        refine c_region ?_
        refine l_step (y_bld bN bld65_z) ?_
        refine l_eff (e_alloc zr_65) (fun v7 w7 h7 => ?_)
        obtain ⟨b7, rfl, n7⟩ := h7
        have f7 : w.heap.size ≤ b7 := Nat.le_trans U.size n7.fresh
        replace hX := hX.up n7.up
        replace U := U.tr n7.up
        have k7 := n7.blk
        obtain ⟨zs7, hz7, k7⟩ : ∃ cs : Array Value, cs.size = 4 ∧ Blk w7 b7 cs := ⟨_, rfl, k7⟩
        have nc7 : col b7 = 0 := hnw _ f7
        refine l_effN (e_store sz_65 (et g0 rfl) (cellsV (et (gS rfl g0) rfl) rfl) rfl (by exact one_uL _) k7 (by (first | (rw [hz7]; exact Nat.le_refl _) | (rw [List.size_toArray, wL_len]; exact Nat.le_refl _)))) (fun v8 w8 h8 => ?_)
        obtain ⟨rfl, x8⟩ := h8
        replace hX := hX.ch x8.ch (by first | omega | (intro b hb; first | (subst hb; first | exact ⟨by omega, fun hh => by have := hfz.lt hh; omega, by omega⟩ | exact ⟨by omega, by assumption, by omega⟩) | (rcases hb with hb | hb <;> (subst hb; first | exact ⟨by omega, fun hh => by have := hfz.lt hh; omega, by omega⟩ | exact ⟨by omega, by assumption, by omega⟩))))
        replace k7 := x8.blk.full (by first | (rw [hz7]; rfl) | (rw [List.size_toArray, wL_len, wL_len]))
        replace U := U.st x8 (.inr f7)
        refine l_nil ?_
        refine hK6 _ _ ?_
        refine fg3 0 2 3 (gS rfl (gS rfl (gS rfl g0))) (gS rfl (gS rfl g0)) g0 (fun g => ?_)
        refine c_seq (fun K9 hK9 => ?_)
        exact (by
          refine c_region ?_
          refine l_step y_assignC ?_
          refine l_nil ?_
          refine hK9 _ _ ?_
          refine c_seq (fun K10 hK10 => ?_)
          refine c_seq (fun K11 hK11 => ?_)
          exact (by
            refine c_region ?_
            refine l_step (y_moveV (et (gS rfl (gS rfl (gS rfl g0))) rfl)) ?_
            refine l_eff (e_callV cal_108 (aC (et g0 rfl) aN) (m_opcode hX.ex hs hp)) (fun v12 w12 h12 => ?_)
            obtain ⟨rfl, u12⟩ := h12
            replace k7 := k7.up u12
            replace hX := hX.up u12
            replace U := U.tr u12
            refine l_nil ?_
            refine hK11 _ _ ?_
            refine fg5 0 2 3 4 11 (gS rfl (gS rfl (gS rfl (gS rfl (gS rfl g0))))) (gS rfl (gS rfl (gS rfl (gS rfl g0)))) (gS rfl (gS rfl (gS rfl g0))) (gS rfl (gS rfl g0)) g0 (fun g => ?_)
            refine c_block (fun Q13 hQ13 => ?_)
            refine c_seq (fun K14 hK14 => ?_)
            exact (by
              refine c_region ?_
              refine l_step (y_eql (et g0 rfl) rfl) ?_
              refine l_step (y_assignV (et g0 rfl)) ?_
              refine l_nil ?_
              refine hK14 _ _ ?_
              refine fg6 0 2 3 4 11 12 (gS rfl (gS rfl (gS rfl (gS rfl (gS rfl (gS rfl g0)))))) (gS rfl (gS rfl (gS rfl (gS rfl (gS rfl g0))))) (gS rfl (gS rfl (gS rfl (gS rfl g0)))) (gS rfl (gS rfl (gS rfl g0))) (gS rfl (gS rfl g0)) g0 (fun g => ?_)
              refine c_false (et g0 rfl) (by (exact decide_eq_false (by omega))) ?_
              refine c_seq (fun K16 hK16 => ?_)
              exact (by
                refine c_region ?_
                refine l_step (y_eql (et (gS rfl g0) rfl) rfl) ?_
                refine l_step (y_assignV (et g0 rfl)) ?_
                refine l_nil ?_
                refine hK16 _ _ ?_
                refine fg6 0 2 3 4 11 19 (gS rfl (gS rfl (gS rfl (gS rfl (gS rfl (gS rfl (gS rfl g0))))))) (gS rfl (gS rfl (gS rfl (gS rfl (gS rfl (gS rfl g0)))))) (gS rfl (gS rfl (gS rfl (gS rfl (gS rfl g0))))) (gS rfl (gS rfl (gS rfl (gS rfl g0)))) (gS rfl (gS rfl (gS rfl g0))) g0 (fun g => ?_)
                refine c_true (et g0 rfl) (by (exact decide_eq_true (by omega))) ?_
                exact (by
                  refine c_region ?_
                  refine l_step (y_moveV (et (gS rfl (gS rfl (gS rfl (gS rfl (gS rfl g0))))) rfl)) ?_
                  refine l_step (y_nil (et g0 rfl)) ?_
                  refine l_step (y_fld fld_75_7 (et g0 rfl)) ?_
                  refine l_step (y_loadR agg_25 sz_25 (et g0 rfl) (by rw [length_bL, length_be]) (at1R (hX.ex.vl.kC.rowO hX.ex.lx.org (by omega)))) ?_
                  refine l_eff (e_callV cal_257 (aC (et g0 rfl) aN) (mach_addrWord s.origin _ hor9)) (fun v18 w18 h18 => ?_)
                  obtain ⟨rfl, u18⟩ := h18
                  replace k7 := k7.up u18
                  replace hX := hX.up u18
                  replace U := U.tr u18
                  refine l_effN (e_store sz_65 (et (gS rfl (gS rfl (gS rfl (gS rfl (gS rfl (gS rfl (gS rfl (gS rfl g0)))))))) rfl) (cellsV (et g0 rfl) rfl) rfl (by exact one_uL _) k7 (by (first | (rw [hz7]; exact Nat.le_refl _) | (rw [List.size_toArray, wL_len]; exact Nat.le_refl _)))) (fun v19 w19 h19 => ?_)
                  obtain ⟨rfl, x19⟩ := h19
                  replace hX := hX.ch x19.ch (by first | omega | (intro b hb; first | (subst hb; first | exact ⟨by omega, fun hh => by have := hfz.lt hh; omega, by omega⟩ | exact ⟨by omega, by assumption, by omega⟩) | (rcases hb with hb | hb <;> (subst hb; first | exact ⟨by omega, fun hh => by have := hfz.lt hh; omega, by omega⟩ | exact ⟨by omega, by assumption, by omega⟩))))
                  replace k7 := x19.blk.full (by first | (rw [hz7]; rfl) | (rw [List.size_toArray, wL_len, wL_len]))
                  replace U := U.st x19 (.inr f7)
                  refine l_nil ?_
                  refine hQ13 _ _ _ (in_normal ?_)
                  refine hK10 _ _ ?_
                  refine fg4 0 2 3 4 (gS rfl (gS rfl (gS rfl (gS rfl (gS rfl (gS rfl (gS rfl (gS rfl (gS rfl (gS rfl g0)))))))))) (gS rfl (gS rfl (gS rfl (gS rfl (gS rfl (gS rfl (gS rfl (gS rfl (gS rfl g0))))))))) (gS rfl (gS rfl (gS rfl (gS rfl (gS rfl (gS rfl (gS rfl (gS rfl g0)))))))) (gS rfl (gS rfl (gS rfl (gS rfl (gS rfl (gS rfl (gS rfl g0))))))) (fun g => ?_)
                  refine c_region ?_
                  refine l_step (y_moveV (et (gS rfl (gS rfl (gS rfl g0))) rfl)) ?_
                  refine l_step (y_moveV (et (gS rfl (gS rfl (gS rfl g0))) rfl)) ?_
                  refine l_step (y_moveV (et (gS rfl (gS rfl g0)) rfl)) ?_
                  refine l_step (y_loadB agg_65 sz_65 (et (gS rfl (gS rfl (gS rfl (gS rfl g0)))) rfl) rfl (at1B k7)) ?_
                  refine l_eff (e_callV cal_259 (aC (et (gS rfl (gS rfl (gS rfl g0))) rfl) (aC (et (gS rfl (gS rfl g0)) rfl) (aC (et (gS rfl g0) rfl) (aC rfl (aC (et g0 rfl) (aC (v := .int .u16 ((1 : Nat) : Int)) rfl aN)))))) (m_settle1 hX.ex hs hp rfl 0 _ 1 (by omega) hx8 (by omega) (by omega))) (fun v20 w20 h20 => ?_)
                  obtain ⟨rfl, cs20, y20⟩ := h20
                  replace k7 := k7.ch y20.et.go.ch (by intro hm; (have e0 := hm); omega)
                  replace hX := hX.trans y20
                  replace U := U.cc y20.et.go.ch (by intro b hb; exact .inl trivial)
                  refine l_nil ?_
                  refine end0 rfl ?_
                  exact ⟨rfl, _, hX⟩))))))))
theorem m_opSur51 {w : World} {H : Store} {col : Nat → Nat} {bc : Nat} {cs : Array Value} {V : EV} {s : YSt} {sn : List Nat} {sv : List AW} {ms : List (List Nat)} {c : Nat} {low : List YF} {f : YF} (hE : EX w H col bc cs V s sn sv ms c) (hs : s.frames = low ++ [f]) (hp : s.phase = 1) {lo : List (List Nat)} {m : List Nat} (hms : ms = lo ++ [m]) (hq : opcN f = 51) (hpc9 : f.pc < 512) (hlt9 : f.stack.length < 64) (hor9 : s.origin < A160) (hpr9 : s.price < W256) (hrl9 : s.ret.length ≤ 717280) :
    Ret 194 [.pointer (some ⟨bc, 0, none⟩)] w (fun v w' => v = .tuple #[] ∧ ∃ cs', XT w H col w' H col bc cs' V { s with frames := low ++ [ansN f 0 (f.caller)] } sn sv ms c) := by
  obtain ⟨n9, hn9, hR⟩ := hE.topF hs
  have hB := hE.fbT hs
  have h6 := hE.six hs
  have htop := hE.cTop hs
  have hphs := hE.cPh hp
  have hbp := hB.pc
  have hbs := hB.stk
  have hbg := hB.gas
  have hbc9 := hB.code
  have hnw := hE.vl.new
  have hfz := hE.vl.fz
  have hcC := hE.vl.colC
  have hbc0 := hE.vl.kC.lt
  have hX := XT.refl hE
  have hmx := hE.memMx hms
  obtain ⟨ca9, cc9, ia9, ic9, hr5, hcode, hinp⟩ := hR.r5
  obtain ⟨ra9, rc9, hret9, hrb9⟩ := hE.lx.ret
  have hbi9 := hB.input
  have hx8 : f.caller < W256 := lt_A hB.caller
  refine enter (n := 122) Hvaa.func194 rfl rfl (Nat.le_of_ble_eq_true rfl) ?_
  have U : Ch (fun _ => True) w w := Ch.refl _ w
  refine c_seq (fun K1 hK1 => ?_)
  exact (by
    refine c_region ?_
    refine l_step (y_moveV (et g0 rfl)) ?_
    refine l_eff (e_callV cal_183 (aC (et g0 rfl) aN) (m_running hX.ex hs hp)) (fun v2 w2 h2 => ?_)
    obtain ⟨rfl, u2⟩ := h2
    replace hX := hX.up u2
    replace U := U.tr u2
    refine l_step (y_assignV (et g0 rfl)) ?_
    refine l_nil ?_
    refine hK1 _ _ ?_
    refine fg2 0 2 (gS rfl (gS rfl (gS rfl g0))) g0 (fun g => ?_)
    refine c_seq (fun K3 hK3 => ?_)
    refine c_seq (fun K4 hK4 => ?_)
    exact (by
      refine c_region ?_
      refine l_step (y_moveV (et g0 rfl)) ?_
      refine l_step (y_eqlNil Hvaa.underlying276 (et g0 rfl) rfl) ?_
      refine l_nil ?_
      refine hK4 _ _ ?_
      refine fg3 0 2 8 (gS rfl (gS rfl (gS rfl g0))) (gS rfl (gS rfl g0)) g0 (fun g => ?_)
      refine c_false (et g0 rfl) rfl ?_
      refine c_skip ?_
      refine hK3 _ _ ?_
      refine fg2 0 2 (gS rfl (gS rfl g0)) (gS rfl g0) (fun g => ?_)
      refine c_seq (fun K6 hK6 => ?_)
      exact (by
        refine c_region ?_
        refine l_step (y_bld bN bld65_z) ?_
        refine l_eff (e_alloc zr_65) (fun v7 w7 h7 => ?_)
        obtain ⟨b7, rfl, n7⟩ := h7
        have f7 : w.heap.size ≤ b7 := Nat.le_trans U.size n7.fresh
        replace hX := hX.up n7.up
        replace U := U.tr n7.up
        have k7 := n7.blk
        obtain ⟨zs7, hz7, k7⟩ : ∃ cs : Array Value, cs.size = 4 ∧ Blk w7 b7 cs := ⟨_, rfl, k7⟩
        have nc7 : col b7 = 0 := hnw _ f7
        refine l_effN (e_store sz_65 (et g0 rfl) (cellsV (et (gS rfl g0) rfl) rfl) rfl (by exact one_uL _) k7 (by (first | (rw [hz7]; exact Nat.le_refl _) | (rw [List.size_toArray, wL_len]; exact Nat.le_refl _)))) (fun v8 w8 h8 => ?_)
        obtain ⟨rfl, x8⟩ := h8
        replace hX := hX.ch x8.ch (by first | omega | (intro b hb; first | (subst hb; first | exact ⟨by omega, fun hh => by have := hfz.lt hh; omega, by omega⟩ | exact ⟨by omega, by assumption, by omega⟩) | (rcases hb with hb | hb <;> (subst hb; first | exact ⟨by omega, fun hh => by have := hfz.lt hh; omega, by omega⟩ | exact ⟨by omega, by assumption, by omega⟩))))
        replace k7 := x8.blk.full (by first | (rw [hz7]; rfl) | (rw [List.size_toArray, wL_len, wL_len]))
        replace U := U.st x8 (.inr f7)
        refine l_nil ?_
        refine hK6 _ _ ?_
        refine fg3 0 2 3 (gS rfl (gS rfl (gS rfl g0))) (gS rfl (gS rfl g0)) g0 (fun g => ?_)
        refine c_seq (fun K9 hK9 => ?_)
        exact (by
          refine c_region ?_
          refine l_step y_assignC ?_
          refine l_nil ?_
          refine hK9 _ _ ?_
          refine c_seq (fun K10 hK10 => ?_)
          refine c_seq (fun K11 hK11 => ?_)
          exact (by
            refine c_region ?_
            refine l_step (y_moveV (et (gS rfl (gS rfl (gS rfl g0))) rfl)) ?_
            refine l_eff (e_callV cal_108 (aC (et g0 rfl) aN) (m_opcode hX.ex hs hp)) (fun v12 w12 h12 => ?_)
            obtain ⟨rfl, u12⟩ := h12
            replace k7 := k7.up u12
            replace hX := hX.up u12
            replace U := U.tr u12
            refine l_nil ?_
            refine hK11 _ _ ?_
            refine fg5 0 2 3 4 11 (gS rfl (gS rfl (gS rfl (gS rfl (gS rfl g0))))) (gS rfl (gS rfl (gS rfl (gS rfl g0)))) (gS rfl (gS rfl (gS rfl g0))) (gS rfl (gS rfl g0)) g0 (fun g => ?_)
            refine c_block (fun Q13 hQ13 => ?_)
            refine c_seq (fun K14 hK14 => ?_)
            exact (by
              refine c_region ?_
              refine l_step (y_eql (et g0 rfl) rfl) ?_
              refine l_step (y_assignV (et g0 rfl)) ?_
              refine l_nil ?_
              refine hK14 _ _ ?_
              refine fg6 0 2 3 4 11 12 (gS rfl (gS rfl (gS rfl (gS rfl (gS rfl (gS rfl g0)))))) (gS rfl (gS rfl (gS rfl (gS rfl (gS rfl g0))))) (gS rfl (gS rfl (gS rfl (gS rfl g0)))) (gS rfl (gS rfl (gS rfl g0))) (gS rfl (gS rfl g0)) g0 (fun g => ?_)
              refine c_false (et g0 rfl) (by (exact decide_eq_false (by omega))) ?_
              refine c_seq (fun K16 hK16 => ?_)
              exact (by
                refine c_region ?_
                refine l_step (y_eql (et (gS rfl g0) rfl) rfl) ?_
                refine l_step (y_assignV (et g0 rfl)) ?_
                refine l_nil ?_
                refine hK16 _ _ ?_
                refine fg6 0 2 3 4 11 19 (gS rfl (gS rfl (gS rfl (gS rfl (gS rfl (gS rfl (gS rfl g0))))))) (gS rfl (gS rfl (gS rfl (gS rfl (gS rfl (gS rfl g0)))))) (gS rfl (gS rfl (gS rfl (gS rfl (gS rfl g0))))) (gS rfl (gS rfl (gS rfl (gS rfl g0)))) (gS rfl (gS rfl (gS rfl g0))) g0 (fun g => ?_)
                refine c_false (et g0 rfl) (by (exact decide_eq_false (by omega))) ?_
                refine c_seq (fun K18 hK18 => ?_)
                exact (by
                  refine c_region ?_
                  refine l_step (y_eql (et (gS rfl g0) rfl) rfl) ?_
                  refine l_step (y_assignV (et g0 rfl)) ?_
                  refine l_nil ?_
                  refine hK18 _ _ ?_
                  refine fg6 0 2 3 4 11 26 (gS rfl (gS rfl (gS rfl (gS rfl (gS rfl (gS rfl (gS rfl g0))))))) (gS rfl (gS rfl (gS rfl (gS rfl (gS rfl (gS rfl g0)))))) (gS rfl (gS rfl (gS rfl (gS rfl (gS rfl g0))))) (gS rfl (gS rfl (gS rfl (gS rfl g0)))) (gS rfl (gS rfl (gS rfl g0))) g0 (fun g => ?_)
                  refine c_true (et g0 rfl) (by (exact decide_eq_true (by omega))) ?_
                  exact (by
                    refine c_region ?_
                    refine l_step (y_moveV (et (gS rfl (gS rfl (gS rfl (gS rfl g0)))) rfl)) ?_
                    refine l_step (y_nil (et g0 rfl)) ?_
                    refine l_step (y_fld fld_71_10 (et g0 rfl)) ?_
                    refine l_step (y_loadR agg_25 sz_25 (et g0 rfl) (by rw [length_bL, length_be]) (at1R (hX.ex.vl.kC.rowO hR.r3 (by omega)))) ?_
                    refine l_eff (e_callV cal_257 (aC (et g0 rfl) aN) (mach_addrWord f.caller _ hB.caller)) (fun v20 w20 h20 => ?_)
                    obtain ⟨rfl, u20⟩ := h20
                    replace k7 := k7.up u20
                    replace hX := hX.up u20
                    replace U := U.tr u20
                    refine l_effN (e_store sz_65 (et (gS rfl (gS rfl (gS rfl (gS rfl (gS rfl (gS rfl (gS rfl (gS rfl g0)))))))) rfl) (cellsV (et g0 rfl) rfl) rfl (by exact one_uL _) k7 (by (first | (rw [hz7]; exact Nat.le_refl _) | (rw [List.size_toArray, wL_len]; exact Nat.le_refl _)))) (fun v21 w21 h21 => ?_)
                    obtain ⟨rfl, x21⟩ := h21
                    replace hX := hX.ch x21.ch (by first | omega | (intro b hb; first | (subst hb; first | exact ⟨by omega, fun hh => by have := hfz.lt hh; omega, by omega⟩ | exact ⟨by omega, by assumption, by omega⟩) | (rcases hb with hb | hb <;> (subst hb; first | exact ⟨by omega, fun hh => by have := hfz.lt hh; omega, by omega⟩ | exact ⟨by omega, by assumption, by omega⟩))))
                    replace k7 := x21.blk.full (by first | (rw [hz7]; rfl) | (rw [List.size_toArray, wL_len, wL_len]))
                    replace U := U.st x21 (.inr f7)
                    refine l_nil ?_
                    refine hQ13 _ _ _ (in_normal ?_)
                    refine hK10 _ _ ?_
                    refine fg4 0 2 3 4 (gS rfl (gS rfl (gS rfl (gS rfl (gS rfl (gS rfl (gS rfl (gS rfl (gS rfl (gS rfl g0)))))))))) (gS rfl (gS rfl (gS rfl (gS rfl (gS rfl (gS rfl (gS rfl (gS rfl (gS rfl g0))))))))) (gS rfl (gS rfl (gS rfl (gS rfl (gS rfl (gS rfl (gS rfl (gS rfl g0)))))))) (gS rfl (gS rfl (gS rfl (gS rfl (gS rfl (gS rfl (gS rfl g0))))))) (fun g => ?_)
                    refine c_region ?_
                    refine l_step (y_moveV (et (gS rfl (gS rfl (gS rfl g0))) rfl)) ?_
                    refine l_step (y_moveV (et (gS rfl (gS rfl (gS rfl g0))) rfl)) ?_
                    refine l_step (y_moveV (et (gS rfl (gS rfl g0)) rfl)) ?_
                    refine l_step (y_loadB agg_65 sz_65 (et (gS rfl (gS rfl (gS rfl (gS rfl g0)))) rfl) rfl (at1B k7)) ?_
                    refine l_eff (e_callV cal_259 (aC (et (gS rfl (gS rfl (gS rfl g0))) rfl) (aC (et (gS rfl (gS rfl g0)) rfl) (aC (et (gS rfl g0) rfl) (aC rfl (aC (et g0 rfl) (aC (v := .int .u16 ((1 : Nat) : Int)) rfl aN)))))) (m_settle1 hX.ex hs hp rfl 0 _ 1 (by omega) hx8 (by omega) (by omega))) (fun v22 w22 h22 => ?_)
                    obtain ⟨rfl, cs22, y22⟩ := h22
                    replace k7 := k7.ch y22.et.go.ch (by intro hm; (have e0 := hm); omega)
                    replace hX := hX.trans y22
                    replace U := U.cc y22.et.go.ch (by intro b hb; exact .inl trivial)
                    refine l_nil ?_
                    refine end0 rfl ?_
                    exact ⟨rfl, _, hX⟩)))))))))
theorem m_opSur52 {w : World} {H : Store} {col : Nat → Nat} {bc : Nat} {cs : Array Value} {V : EV} {s : YSt} {sn : List Nat} {sv : List AW} {ms : List (List Nat)} {c : Nat} {low : List YF} {f : YF} (hE : EX w H col bc cs V s sn sv ms c) (hs : s.frames = low ++ [f]) (hp : s.phase = 1) {lo : List (List Nat)} {m : List Nat} (hms : ms = lo ++ [m]) (hq : opcN f = 52) (hpc9 : f.pc < 512) (hlt9 : f.stack.length < 64) (hor9 : s.origin < A160) (hpr9 : s.price < W256) (hrl9 : s.ret.length ≤ 717280) :
    Ret 194 [.pointer (some ⟨bc, 0, none⟩)] w (fun v w' => v = .tuple #[] ∧ ∃ cs', XT w H col w' H col bc cs' V { s with frames := low ++ [ansN f 0 (f.value)] } sn sv ms c) := by
  obtain ⟨n9, hn9, hR⟩ := hE.topF hs
  have hB := hE.fbT hs
  have h6 := hE.six hs
  have htop := hE.cTop hs
  have hphs := hE.cPh hp
  have hbp := hB.pc
  have hbs := hB.stk
  have hbg := hB.gas
  have hbc9 := hB.code
  have hnw := hE.vl.new
  have hfz := hE.vl.fz
  have hcC := hE.vl.colC
  have hbc0 := hE.vl.kC.lt
  have hX := XT.refl hE
  have hmx := hE.memMx hms
  obtain ⟨ca9, cc9, ia9, ic9, hr5, hcode, hinp⟩ := hR.r5
  obtain ⟨ra9, rc9, hret9, hrb9⟩ := hE.lx.ret
  have hbi9 := hB.input
  have hx8 : f.value < W256 := hB.value
  refine enter (n := 122) Hvaa.func194 rfl rfl (Nat.le_of_ble_eq_true rfl) ?_
  have U : Ch (fun _ => True) w w := Ch.refl _ w
  refine c_seq (fun K1 hK1 => ?_)
  exact (by
    refine c_region ?_
    refine l_step (y_moveV (et g0 rfl)) ?_
    refine l_eff (e_callV cal_183 (aC (et g0 rfl) aN) (m_running hX.ex hs hp)) (fun v2 w2 h2 => ?_)
    obtain ⟨rfl, u2⟩ := h2
    replace hX := hX.up u2
    replace U := U.tr u2
    refine l_step (y_assignV (et g0 rfl)) ?_
    refine l_nil ?_
    refine hK1 _ _ ?_
    refine fg2 0 2 (gS rfl (gS rfl (gS rfl g0))) g0 (fun g => ?_)
    refine c_seq (fun K3 hK3 => ?_)
    refine c_seq (fun K4 hK4 => ?_)
    exact (by
      refine c_region ?_
      refine l_step (y_moveV (et g0 rfl)) ?_
      refine l_step (y_eqlNil Hvaa.underlying276 (et g0 rfl) rfl) ?_
      refine l_nil ?_
      refine hK4 _ _ ?_
      refine fg3 0 2 8 (gS rfl (gS rfl (gS rfl g0))) (gS rfl (gS rfl g0)) g0 (fun g => ?_)
      refine c_false (et g0 rfl) rfl ?_
      refine c_skip ?_
      refine hK3 _ _ ?_
      refine fg2 0 2 (gS rfl (gS rfl g0)) (gS rfl g0) (fun g => ?_)
      refine c_seq (fun K6 hK6 => ?_)
      exact (by
        refine c_region ?_
        refine l_step (y_bld bN bld65_z) ?_
        refine l_eff (e_alloc zr_65) (fun v7 w7 h7 => ?_)
        obtain ⟨b7, rfl, n7⟩ := h7
        have f7 : w.heap.size ≤ b7 := Nat.le_trans U.size n7.fresh
        replace hX := hX.up n7.up
        replace U := U.tr n7.up
        have k7 := n7.blk
        obtain ⟨zs7, hz7, k7⟩ : ∃ cs : Array Value, cs.size = 4 ∧ Blk w7 b7 cs := ⟨_, rfl, k7⟩
        have nc7 : col b7 = 0 := hnw _ f7
        refine l_effN (e_store sz_65 (et g0 rfl) (cellsV (et (gS rfl g0) rfl) rfl) rfl (by exact one_uL _) k7 (by (first | (rw [hz7]; exact Nat.le_refl _) | (rw [List.size_toArray, wL_len]; exact Nat.le_refl _)))) (fun v8 w8 h8 => ?_)
        obtain ⟨rfl, x8⟩ := h8
        replace hX := hX.ch x8.ch (by first | omega | (intro b hb; first | (subst hb; first | exact ⟨by omega, fun hh => by have := hfz.lt hh; omega, by omega⟩ | exact ⟨by omega, by assumption, by omega⟩) | (rcases hb with hb | hb <;> (subst hb; first | exact ⟨by omega, fun hh => by have := hfz.lt hh; omega, by omega⟩ | exact ⟨by omega, by assumption, by omega⟩))))
        replace k7 := x8.blk.full (by first | (rw [hz7]; rfl) | (rw [List.size_toArray, wL_len, wL_len]))
        replace U := U.st x8 (.inr f7)
        refine l_nil ?_
        refine hK6 _ _ ?_
        refine fg3 0 2 3 (gS rfl (gS rfl (gS rfl g0))) (gS rfl (gS rfl g0)) g0 (fun g => ?_)
        refine c_seq (fun K9 hK9 => ?_)
        exact (by
          refine c_region ?_
          refine l_step y_assignC ?_
          refine l_nil ?_
          refine hK9 _ _ ?_
          refine c_seq (fun K10 hK10 => ?_)
          refine c_seq (fun K11 hK11 => ?_)
          exact (by
            refine c_region ?_
            refine l_step (y_moveV (et (gS rfl (gS rfl (gS rfl g0))) rfl)) ?_
            refine l_eff (e_callV cal_108 (aC (et g0 rfl) aN) (m_opcode hX.ex hs hp)) (fun v12 w12 h12 => ?_)
            obtain ⟨rfl, u12⟩ := h12
            replace k7 := k7.up u12
            replace hX := hX.up u12
            replace U := U.tr u12
            refine l_nil ?_
            refine hK11 _ _ ?_
            refine fg5 0 2 3 4 11 (gS rfl (gS rfl (gS rfl (gS rfl (gS rfl g0))))) (gS rfl (gS rfl (gS rfl (gS rfl g0)))) (gS rfl (gS rfl (gS rfl g0))) (gS rfl (gS rfl g0)) g0 (fun g => ?_)
            refine c_block (fun Q13 hQ13 => ?_)
            refine c_seq (fun K14 hK14 => ?_)
            exact (by
              refine c_region ?_
              refine l_step (y_eql (et g0 rfl) rfl) ?_
              refine l_step (y_assignV (et g0 rfl)) ?_
              refine l_nil ?_
              refine hK14 _ _ ?_
              refine fg6 0 2 3 4 11 12 (gS rfl (gS rfl (gS rfl (gS rfl (gS rfl (gS rfl g0)))))) (gS rfl (gS rfl (gS rfl (gS rfl (gS rfl g0))))) (gS rfl (gS rfl (gS rfl (gS rfl g0)))) (gS rfl (gS rfl (gS rfl g0))) (gS rfl (gS rfl g0)) g0 (fun g => ?_)
              refine c_false (et g0 rfl) (by (exact decide_eq_false (by omega))) ?_
              refine c_seq (fun K16 hK16 => ?_)
              exact (by
                refine c_region ?_
                refine l_step (y_eql (et (gS rfl g0) rfl) rfl) ?_
                refine l_step (y_assignV (et g0 rfl)) ?_
                refine l_nil ?_
                refine hK16 _ _ ?_
                refine fg6 0 2 3 4 11 19 (gS rfl (gS rfl (gS rfl (gS rfl (gS rfl (gS rfl (gS rfl g0))))))) (gS rfl (gS rfl (gS rfl (gS rfl (gS rfl (gS rfl g0)))))) (gS rfl (gS rfl (gS rfl (gS rfl (gS rfl g0))))) (gS rfl (gS rfl (gS rfl (gS rfl g0)))) (gS rfl (gS rfl (gS rfl g0))) g0 (fun g => ?_)
                refine c_false (et g0 rfl) (by (exact decide_eq_false (by omega))) ?_
                refine c_seq (fun K18 hK18 => ?_)
                exact (by
                  refine c_region ?_
                  refine l_step (y_eql (et (gS rfl g0) rfl) rfl) ?_
                  refine l_step (y_assignV (et g0 rfl)) ?_
                  refine l_nil ?_
                  refine hK18 _ _ ?_
                  refine fg6 0 2 3 4 11 26 (gS rfl (gS rfl (gS rfl (gS rfl (gS rfl (gS rfl (gS rfl g0))))))) (gS rfl (gS rfl (gS rfl (gS rfl (gS rfl (gS rfl g0)))))) (gS rfl (gS rfl (gS rfl (gS rfl (gS rfl g0))))) (gS rfl (gS rfl (gS rfl (gS rfl g0)))) (gS rfl (gS rfl (gS rfl g0))) g0 (fun g => ?_)
                  refine c_false (et g0 rfl) (by (exact decide_eq_false (by omega))) ?_
                  refine c_seq (fun K20 hK20 => ?_)
                  exact (by
                    refine c_region ?_
                    refine l_step (y_eql (et (gS rfl g0) rfl) rfl) ?_
                    refine l_step (y_assignV (et g0 rfl)) ?_
                    refine l_nil ?_
                    refine hK20 _ _ ?_
                    refine fg6 0 2 3 4 11 33 (gS rfl (gS rfl (gS rfl (gS rfl (gS rfl (gS rfl (gS rfl g0))))))) (gS rfl (gS rfl (gS rfl (gS rfl (gS rfl (gS rfl g0)))))) (gS rfl (gS rfl (gS rfl (gS rfl (gS rfl g0))))) (gS rfl (gS rfl (gS rfl (gS rfl g0)))) (gS rfl (gS rfl (gS rfl g0))) g0 (fun g => ?_)
                    refine c_true (et g0 rfl) (by (exact decide_eq_true (by omega))) ?_
                    exact (by
                      refine c_region ?_
                      refine l_step (y_moveV (et (gS rfl (gS rfl (gS rfl (gS rfl g0)))) rfl)) ?_
                      refine l_step (y_nil (et g0 rfl)) ?_
                      refine l_step (y_fld fld_71_11 (et g0 rfl)) ?_
                      refine l_step (y_loadR agg_65 sz_65 (et g0 rfl) rfl (at1R (hX.ex.vl.kC.rowO hR.r4 (by omega)))) ?_
                      refine l_effN (e_store sz_65 (et (gS rfl (gS rfl (gS rfl (gS rfl (gS rfl (gS rfl (gS rfl g0))))))) rfl) (cellsV (et g0 rfl) rfl) rfl (by exact one_uL _) k7 (by (first | (rw [hz7]; exact Nat.le_refl _) | (rw [List.size_toArray, wL_len]; exact Nat.le_refl _)))) (fun v22 w22 h22 => ?_)
                      obtain ⟨rfl, x22⟩ := h22
                      replace hX := hX.ch x22.ch (by first | omega | (intro b hb; first | (subst hb; first | exact ⟨by omega, fun hh => by have := hfz.lt hh; omega, by omega⟩ | exact ⟨by omega, by assumption, by omega⟩) | (rcases hb with hb | hb <;> (subst hb; first | exact ⟨by omega, fun hh => by have := hfz.lt hh; omega, by omega⟩ | exact ⟨by omega, by assumption, by omega⟩))))
                      replace k7 := x22.blk.full (by first | (rw [hz7]; rfl) | (rw [List.size_toArray, wL_len, wL_len]))
                      replace U := U.st x22 (.inr f7)
                      refine l_nil ?_
                      refine hQ13 _ _ _ (in_normal ?_)
                      refine hK10 _ _ ?_
                      refine fg4 0 2 3 4 (gS rfl (gS rfl (gS rfl (gS rfl (gS rfl (gS rfl (gS rfl (gS rfl (gS rfl g0))))))))) (gS rfl (gS rfl (gS rfl (gS rfl (gS rfl (gS rfl (gS rfl (gS rfl g0)))))))) (gS rfl (gS rfl (gS rfl (gS rfl (gS rfl (gS rfl (gS rfl g0))))))) (gS rfl (gS rfl (gS rfl (gS rfl (gS rfl (gS rfl g0)))))) (fun g => ?_)
                      refine c_region ?_
                      refine l_step (y_moveV (et (gS rfl (gS rfl (gS rfl g0))) rfl)) ?_
                      refine l_step (y_moveV (et (gS rfl (gS rfl (gS rfl g0))) rfl)) ?_
                      refine l_step (y_moveV (et (gS rfl (gS rfl g0)) rfl)) ?_
                      refine l_step (y_loadB agg_65 sz_65 (et (gS rfl (gS rfl (gS rfl (gS rfl g0)))) rfl) rfl (at1B k7)) ?_
                      refine l_eff (e_callV cal_259 (aC (et (gS rfl (gS rfl (gS rfl g0))) rfl) (aC (et (gS rfl (gS rfl g0)) rfl) (aC (et (gS rfl g0) rfl) (aC rfl (aC (et g0 rfl) (aC (v := .int .u16 ((1 : Nat) : Int)) rfl aN)))))) (m_settle1 hX.ex hs hp rfl 0 _ 1 (by omega) hx8 (by omega) (by omega))) (fun v23 w23 h23 => ?_)
                      obtain ⟨rfl, cs23, y23⟩ := h23
                      replace k7 := k7.ch y23.et.go.ch (by intro hm; (have e0 := hm); omega)
                      replace hX := hX.trans y23
                      replace U := U.cc y23.et.go.ch (by intro b hb; exact .inl trivial)
                      refine l_nil ?_
                      refine end0 rfl ?_
                      exact ⟨rfl, _, hX⟩))))))))))
theorem m_opSur54 {w : World} {H : Store} {col : Nat → Nat} {bc : Nat} {cs : Array Value} {V : EV} {s : YSt} {sn : List Nat} {sv : List AW} {ms : List (List Nat)} {c : Nat} {low : List YF} {f : YF} (hE : EX w H col bc cs V s sn sv ms c) (hs : s.frames = low ++ [f]) (hp : s.phase = 1) {lo : List (List Nat)} {m : List Nat} (hms : ms = lo ++ [m]) (hq : opcN f = 54) (hpc9 : f.pc < 512) (hlt9 : f.stack.length < 64) (hor9 : s.origin < A160) (hpr9 : s.price < W256) (hrl9 : s.ret.length ≤ 717280) :
    Ret 194 [.pointer (some ⟨bc, 0, none⟩)] w (fun v w' => v = .tuple #[] ∧ ∃ cs', XT w H col w' H col bc cs' V { s with frames := low ++ [ansN f 0 (f.input.length)] } sn sv ms c) := by
  obtain ⟨n9, hn9, hR⟩ := hE.topF hs
  have hB := hE.fbT hs
  have h6 := hE.six hs
  have htop := hE.cTop hs
  have hphs := hE.cPh hp
  have hbp := hB.pc
  have hbs := hB.stk
  have hbg := hB.gas
  have hbc9 := hB.code
  have hnw := hE.vl.new
  have hfz := hE.vl.fz
  have hcC := hE.vl.colC
  have hbc0 := hE.vl.kC.lt
  have hX := XT.refl hE
  have hmx := hE.memMx hms
  obtain ⟨ca9, cc9, ia9, ic9, hr5, hcode, hinp⟩ := hR.r5
  obtain ⟨ra9, rc9, hret9, hrb9⟩ := hE.lx.ret
  have hbi9 := hB.input
  have hx8 : f.input.length < W256 := lt_W (by omega)
  refine enter (n := 122) Hvaa.func194 rfl rfl (Nat.le_of_ble_eq_true rfl) ?_
  have U : Ch (fun _ => True) w w := Ch.refl _ w
  refine c_seq (fun K1 hK1 => ?_)
  exact (by
    refine c_region ?_
    refine l_step (y_moveV (et g0 rfl)) ?_
    refine l_eff (e_callV cal_183 (aC (et g0 rfl) aN) (m_running hX.ex hs hp)) (fun v2 w2 h2 => ?_)
    obtain ⟨rfl, u2⟩ := h2
    replace hX := hX.up u2
    replace U := U.tr u2
    refine l_step (y_assignV (et g0 rfl)) ?_
    refine l_nil ?_
    refine hK1 _ _ ?_
    refine fg2 0 2 (gS rfl (gS rfl (gS rfl g0))) g0 (fun g => ?_)
    refine c_seq (fun K3 hK3 => ?_)
    refine c_seq (fun K4 hK4 => ?_)
    exact (by
      refine c_region ?_
      refine l_step (y_moveV (et g0 rfl)) ?_
      refine l_step (y_eqlNil Hvaa.underlying276 (et g0 rfl) rfl) ?_
      refine l_nil ?_
      refine hK4 _ _ ?_
      refine fg3 0 2 8 (gS rfl (gS rfl (gS rfl g0))) (gS rfl (gS rfl g0)) g0 (fun g => ?_)
      refine c_false (et g0 rfl) rfl ?_
      refine c_skip ?_
      refine hK3 _ _ ?_
      refine fg2 0 2 (gS rfl (gS rfl g0)) (gS rfl g0) (fun g => ?_)
      refine c_seq (fun K6 hK6 => ?_)
      exact (by
        refine c_region ?_
        refine l_step (y_bld bN bld65_z) ?_
        refine l_eff (e_alloc zr_65) (fun v7 w7 h7 => ?_)
        obtain ⟨b7, rfl, n7⟩ := h7
        have f7 : w.heap.size ≤ b7 := Nat.le_trans U.size n7.fresh
        replace hX := hX.up n7.up
        replace U := U.tr n7.up
        have k7 := n7.blk
        obtain ⟨zs7, hz7, k7⟩ : ∃ cs : Array Value, cs.size = 4 ∧ Blk w7 b7 cs := ⟨_, rfl, k7⟩
        have nc7 : col b7 = 0 := hnw _ f7
        refine l_effN (e_store sz_65 (et g0 rfl) (cellsV (et (gS rfl g0) rfl) rfl) rfl (by exact one_uL _) k7 (by (first | (rw [hz7]; exact Nat.le_refl _) | (rw [List.size_toArray, wL_len]; exact Nat.le_refl _)))) (fun v8 w8 h8 => ?_)
        obtain ⟨rfl, x8⟩ := h8
        replace hX := hX.ch x8.ch (by first | omega | (intro b hb; first | (subst hb; first | exact ⟨by omega, fun hh => by have := hfz.lt hh; omega, by omega⟩ | exact ⟨by omega, by assumption, by omega⟩) | (rcases hb with hb | hb <;> (subst hb; first | exact ⟨by omega, fun hh => by have := hfz.lt hh; omega, by omega⟩ | exact ⟨by omega, by assumption, by omega⟩))))
        replace k7 := x8.blk.full (by first | (rw [hz7]; rfl) | (rw [List.size_toArray, wL_len, wL_len]))
        replace U := U.st x8 (.inr f7)
        refine l_nil ?_
        refine hK6 _ _ ?_
        refine fg3 0 2 3 (gS rfl (gS rfl (gS rfl g0))) (gS rfl (gS rfl g0)) g0 (fun g => ?_)
        refine c_seq (fun K9 hK9 => ?_)
        exact (by
          refine c_region ?_
          refine l_step y_assignC ?_
          refine l_nil ?_
          refine hK9 _ _ ?_
          refine c_seq (fun K10 hK10 => ?_)
          refine c_seq (fun K11 hK11 => ?_)
          exact (by
            refine c_region ?_
            refine l_step (y_moveV (et (gS rfl (gS rfl (gS rfl g0))) rfl)) ?_
            refine l_eff (e_callV cal_108 (aC (et g0 rfl) aN) (m_opcode hX.ex hs hp)) (fun v12 w12 h12 => ?_)
            obtain ⟨rfl, u12⟩ := h12
            replace k7 := k7.up u12
            replace hX := hX.up u12
            replace U := U.tr u12
            refine l_nil ?_
            refine hK11 _ _ ?_
            refine fg5 0 2 3 4 11 (gS rfl (gS rfl (gS rfl (gS rfl (gS rfl g0))))) (gS rfl (gS rfl (gS rfl (gS rfl g0)))) (gS rfl (gS rfl (gS rfl g0))) (gS rfl (gS rfl g0)) g0 (fun g => ?_)
            refine c_block (fun Q13 hQ13 => ?_)
            refine c_seq (fun K14 hK14 => ?_)
            exact (by
              refine c_region ?_
              refine l_step (y_eql (et g0 rfl) rfl) ?_
              refine l_step (y_assignV (et g0 rfl)) ?_
              refine l_nil ?_
              refine hK14 _ _ ?_
              refine fg6 0 2 3 4 11 12 (gS rfl (gS rfl (gS rfl (gS rfl (gS rfl (gS rfl g0)))))) (gS rfl (gS rfl (gS rfl (gS rfl (gS rfl g0))))) (gS rfl (gS rfl (gS rfl (gS rfl g0)))) (gS rfl (gS rfl (gS rfl g0))) (gS rfl (gS rfl g0)) g0 (fun g => ?_)
              refine c_false (et g0 rfl) (by (exact decide_eq_false (by omega))) ?_
              refine c_seq (fun K16 hK16 => ?_)
              exact (by
                refine c_region ?_
                refine l_step (y_eql (et (gS rfl g0) rfl) rfl) ?_
                refine l_step (y_assignV (et g0 rfl)) ?_
                refine l_nil ?_
                refine hK16 _ _ ?_
                refine fg6 0 2 3 4 11 19 (gS rfl (gS rfl (gS rfl (gS rfl (gS rfl (gS rfl (gS rfl g0))))))) (gS rfl (gS rfl (gS rfl (gS rfl (gS rfl (gS rfl g0)))))) (gS rfl (gS rfl (gS rfl (gS rfl (gS rfl g0))))) (gS rfl (gS rfl (gS rfl (gS rfl g0)))) (gS rfl (gS rfl (gS rfl g0))) g0 (fun g => ?_)
                refine c_false (et g0 rfl) (by (exact decide_eq_false (by omega))) ?_
                refine c_seq (fun K18 hK18 => ?_)
                exact (by
                  refine c_region ?_
                  refine l_step (y_eql (et (gS rfl g0) rfl) rfl) ?_
                  refine l_step (y_assignV (et g0 rfl)) ?_
                  refine l_nil ?_
                  refine hK18 _ _ ?_
                  refine fg6 0 2 3 4 11 26 (gS rfl (gS rfl (gS rfl (gS rfl (gS rfl (gS rfl (gS rfl g0))))))) (gS rfl (gS rfl (gS rfl (gS rfl (gS rfl (gS rfl g0)))))) (gS rfl (gS rfl (gS rfl (gS rfl (gS rfl g0))))) (gS rfl (gS rfl (gS rfl (gS rfl g0)))) (gS rfl (gS rfl (gS rfl g0))) g0 (fun g => ?_)
                  refine c_false (et g0 rfl) (by (exact decide_eq_false (by omega))) ?_
                  refine c_seq (fun K20 hK20 => ?_)
                  exact (by
                    refine c_region ?_
                    refine l_step (y_eql (et (gS rfl g0) rfl) rfl) ?_
                    refine l_step (y_assignV (et g0 rfl)) ?_
                    refine l_nil ?_
                    refine hK20 _ _ ?_
                    refine fg6 0 2 3 4 11 33 (gS rfl (gS rfl (gS rfl (gS rfl (gS rfl (gS rfl (gS rfl g0))))))) (gS rfl (gS rfl (gS rfl (gS rfl (gS rfl (gS rfl g0)))))) (gS rfl (gS rfl (gS rfl (gS rfl (gS rfl g0))))) (gS rfl (gS rfl (gS rfl (gS rfl g0)))) (gS rfl (gS rfl (gS rfl g0))) g0 (fun g => ?_)
                    refine c_false (et g0 rfl) (by (exact decide_eq_false (by omega))) ?_
                    refine c_seq (fun K22 hK22 => ?_)
                    exact (by
                      refine c_region ?_
                      refine l_step (y_eql (et (gS rfl g0) rfl) rfl) ?_
                      refine l_step (y_assignV (et g0 rfl)) ?_
                      refine l_nil ?_
                      refine hK22 _ _ ?_
                      refine fg6 0 2 3 4 11 39 (gS rfl (gS rfl (gS rfl (gS rfl (gS rfl (gS rfl (gS rfl g0))))))) (gS rfl (gS rfl (gS rfl (gS rfl (gS rfl (gS rfl g0)))))) (gS rfl (gS rfl (gS rfl (gS rfl (gS rfl g0))))) (gS rfl (gS rfl (gS rfl (gS rfl g0)))) (gS rfl (gS rfl (gS rfl g0))) g0 (fun g => ?_)
                      refine c_false (et g0 rfl) (by (exact decide_eq_false (by omega))) ?_
                      refine c_seq (fun K24 hK24 => ?_)
                      exact (by
                        refine c_region ?_
                        refine l_step (y_eql (et (gS rfl g0) rfl) rfl) ?_
                        refine l_step (y_assignV (et g0 rfl)) ?_
                        refine l_nil ?_
                        refine hK24 _ _ ?_
                        refine fg6 0 2 3 4 11 50 (gS rfl (gS rfl (gS rfl (gS rfl (gS rfl (gS rfl (gS rfl g0))))))) (gS rfl (gS rfl (gS rfl (gS rfl (gS rfl (gS rfl g0)))))) (gS rfl (gS rfl (gS rfl (gS rfl (gS rfl g0))))) (gS rfl (gS rfl (gS rfl (gS rfl g0)))) (gS rfl (gS rfl (gS rfl g0))) g0 (fun g => ?_)
                        refine c_true (et g0 rfl) (by (exact decide_eq_true (by omega))) ?_
                        exact (by
                          refine c_region ?_
                          refine l_step (y_moveV (et (gS rfl (gS rfl (gS rfl (gS rfl g0)))) rfl)) ?_
                          refine l_step (y_nil (et g0 rfl)) ?_
                          refine l_step (y_fld fld_71_13 (et g0 rfl)) ?_
                          refine l_step (y_load1 one_38 (et g0 rfl) (at1 (hX.ex.vl.c1 (hr5 1 _ rfl) (by omega)))) ?_
                          refine l_step (y_len Hvaa.underlying38 (et g0 rfl)) ?_
                          refine l_step (y_conv Hvaa.underlying3 Hvaa.underlying26 (et g0 rfl) (wrapU_id uk64 ?_)) ?_
                          omega
                          refine l_step (y_idxAC 0 0 Hvaa.underlying65 sz_26 (et (gS rfl (gS rfl (gS rfl (gS rfl (gS rfl (gS rfl (gS rfl (gS rfl (gS rfl g0))))))))) rfl) rfl rfl rfl) ?_
                          refine l_effN (e_store sz_26 (et g0 rfl) (cellsV (et (gS rfl g0) rfl) rfl) rfl (by first | exact one_bL _ | exact one_uL _ | (intro v hv; simp at hv; subst hv; rfl)) k7 (by (rw [List.size_toArray, wL_len]; exact Nat.le_of_ble_eq_true rfl))) (fun v26 w26 h26 => ?_)
                          obtain ⟨rfl, x26⟩ := h26
                          replace hX := hX.ch x26.ch (by first | omega | (intro b hb; first | (subst hb; first | exact ⟨by omega, fun hh => by have := hfz.lt hh; omega, by omega⟩ | exact ⟨by omega, by assumption, by omega⟩) | (rcases hb with hb | hb <;> (subst hb; first | exact ⟨by omega, fun hh => by have := hfz.lt hh; omega, by omega⟩ | exact ⟨by omega, by assumption, by omega⟩))))
                          replace k7 := x26.blk
                          replace U := U.st x26 (.inr f7)
                          rw [w0_put (by omega) rfl] at k7
                          refine l_nil ?_
                          refine hQ13 _ _ _ (in_normal ?_)
                          refine hK10 _ _ ?_
                          refine fg4 0 2 3 4 (gS rfl (gS rfl (gS rfl (gS rfl (gS rfl (gS rfl (gS rfl (gS rfl (gS rfl (gS rfl (gS rfl (gS rfl g0)))))))))))) (gS rfl (gS rfl (gS rfl (gS rfl (gS rfl (gS rfl (gS rfl (gS rfl (gS rfl (gS rfl (gS rfl g0))))))))))) (gS rfl (gS rfl (gS rfl (gS rfl (gS rfl (gS rfl (gS rfl (gS rfl (gS rfl (gS rfl g0)))))))))) (gS rfl (gS rfl (gS rfl (gS rfl (gS rfl (gS rfl (gS rfl (gS rfl (gS rfl g0))))))))) (fun g => ?_)
                          refine c_region ?_
                          refine l_step (y_moveV (et (gS rfl (gS rfl (gS rfl g0))) rfl)) ?_
                          refine l_step (y_moveV (et (gS rfl (gS rfl (gS rfl g0))) rfl)) ?_
                          refine l_step (y_moveV (et (gS rfl (gS rfl g0)) rfl)) ?_
                          refine l_step (y_loadB agg_65 sz_65 (et (gS rfl (gS rfl (gS rfl (gS rfl g0)))) rfl) rfl (at1B k7)) ?_
                          refine l_eff (e_callV cal_259 (aC (et (gS rfl (gS rfl (gS rfl g0))) rfl) (aC (et (gS rfl (gS rfl g0)) rfl) (aC (et (gS rfl g0) rfl) (aC rfl (aC (et g0 rfl) (aC (v := .int .u16 ((1 : Nat) : Int)) rfl aN)))))) (m_settle1 hX.ex hs hp rfl 0 _ 1 (by omega) hx8 (by omega) (by omega))) (fun v27 w27 h27 => ?_)
                          obtain ⟨rfl, cs27, y27⟩ := h27
                          replace k7 := k7.ch y27.et.go.ch (by intro hm; (have e0 := hm); omega)
                          replace hX := hX.trans y27
                          replace U := U.cc y27.et.go.ch (by intro b hb; exact .inl trivial)
                          refine l_nil ?_
                          refine end0 rfl ?_
                          exact ⟨rfl, _, hX⟩))))))))))))
theorem m_opSur56 {w : World} {H : Store} {col : Nat → Nat} {bc : Nat} {cs : Array Value} {V : EV} {s : YSt} {sn : List Nat} {sv : List AW} {ms : List (List Nat)} {c : Nat} {low : List YF} {f : YF} (hE : EX w H col bc cs V s sn sv ms c) (hs : s.frames = low ++ [f]) (hp : s.phase = 1) {lo : List (List Nat)} {m : List Nat} (hms : ms = lo ++ [m]) (hq : opcN f = 56) (hpc9 : f.pc < 512) (hlt9 : f.stack.length < 64) (hor9 : s.origin < A160) (hpr9 : s.price < W256) (hrl9 : s.ret.length ≤ 717280) :
    Ret 194 [.pointer (some ⟨bc, 0, none⟩)] w (fun v w' => v = .tuple #[] ∧ ∃ cs', XT w H col w' H col bc cs' V { s with frames := low ++ [ansN f 0 (f.code.length)] } sn sv ms c) := by
  obtain ⟨n9, hn9, hR⟩ := hE.topF hs
  have hB := hE.fbT hs
  have h6 := hE.six hs
  have htop := hE.cTop hs
  have hphs := hE.cPh hp
  have hbp := hB.pc
  have hbs := hB.stk
  have hbg := hB.gas
  have hbc9 := hB.code
  have hnw := hE.vl.new
  have hfz := hE.vl.fz
  have hcC := hE.vl.colC
  have hbc0 := hE.vl.kC.lt
  have hX := XT.refl hE
  have hmx := hE.memMx hms
  obtain ⟨ca9, cc9, ia9, ic9, hr5, hcode, hinp⟩ := hR.r5
  obtain ⟨ra9, rc9, hret9, hrb9⟩ := hE.lx.ret
  have hbi9 := hB.input
  have hx8 : f.code.length < W256 := lt_W (by omega)
  refine enter (n := 122) Hvaa.func194 rfl rfl (Nat.le_of_ble_eq_true rfl) ?_
  have U : Ch (fun _ => True) w w := Ch.refl _ w
  refine c_seq (fun K1 hK1 => ?_)
  exact (by
    refine c_region ?_
    refine l_step (y_moveV (et g0 rfl)) ?_
    refine l_eff (e_callV cal_183 (aC (et g0 rfl) aN) (m_running hX.ex hs hp)) (fun v2 w2 h2 => ?_)
    obtain ⟨rfl, u2⟩ := h2
    replace hX := hX.up u2
    replace U := U.tr u2
    refine l_step (y_assignV (et g0 rfl)) ?_
    refine l_nil ?_
    refine hK1 _ _ ?_
    refine fg2 0 2 (gS rfl (gS rfl (gS rfl g0))) g0 (fun g => ?_)
    refine c_seq (fun K3 hK3 => ?_)
    refine c_seq (fun K4 hK4 => ?_)
    exact (by
      refine c_region ?_
      refine l_step (y_moveV (et g0 rfl)) ?_
      refine l_step (y_eqlNil Hvaa.underlying276 (et g0 rfl) rfl) ?_
      refine l_nil ?_
      refine hK4 _ _ ?_
      refine fg3 0 2 8 (gS rfl (gS rfl (gS rfl g0))) (gS rfl (gS rfl g0)) g0 (fun g => ?_)
      refine c_false (et g0 rfl) rfl ?_
      refine c_skip ?_
      refine hK3 _ _ ?_
      refine fg2 0 2 (gS rfl (gS rfl g0)) (gS rfl g0) (fun g => ?_)
      refine c_seq (fun K6 hK6 => ?_)
      exact (by
        refine c_region ?_
        refine l_step (y_bld bN bld65_z) ?_
        refine l_eff (e_alloc zr_65) (fun v7 w7 h7 => ?_)
        obtain ⟨b7, rfl, n7⟩ := h7
        have f7 : w.heap.size ≤ b7 := Nat.le_trans U.size n7.fresh
        replace hX := hX.up n7.up
        replace U := U.tr n7.up
        have k7 := n7.blk
        obtain ⟨zs7, hz7, k7⟩ : ∃ cs : Array Value, cs.size = 4 ∧ Blk w7 b7 cs := ⟨_, rfl, k7⟩
        have nc7 : col b7 = 0 := hnw _ f7
        refine l_effN (e_store sz_65 (et g0 rfl) (cellsV (et (gS rfl g0) rfl) rfl) rfl (by exact one_uL _) k7 (by (first | (rw [hz7]; exact Nat.le_refl _) | (rw [List.size_toArray, wL_len]; exact Nat.le_refl _)))) (fun v8 w8 h8 => ?_)
        obtain ⟨rfl, x8⟩ := h8
        replace hX := hX.ch x8.ch (by first | omega | (intro b hb; first | (subst hb; first | exact ⟨by omega, fun hh => by have := hfz.lt hh; omega, by omega⟩ | exact ⟨by omega, by assumption, by omega⟩) | (rcases hb with hb | hb <;> (subst hb; first | exact ⟨by omega, fun hh => by have := hfz.lt hh; omega, by omega⟩ | exact ⟨by omega, by assumption, by omega⟩))))
        replace k7 := x8.blk.full (by first | (rw [hz7]; rfl) | (rw [List.size_toArray, wL_len, wL_len]))
        replace U := U.st x8 (.inr f7)
        refine l_nil ?_
        refine hK6 _ _ ?_
        refine fg3 0 2 3 (gS rfl (gS rfl (gS rfl g0))) (gS rfl (gS rfl g0)) g0 (fun g => ?_)
        refine c_seq (fun K9 hK9 => ?_)
        exact (by
          refine c_region ?_
          refine l_step y_assignC ?_
          refine l_nil ?_
          refine hK9 _ _ ?_
          refine c_seq (fun K10 hK10 => ?_)
          refine c_seq (fun K11 hK11 => ?_)
          exact (by
            refine c_region ?_
            refine l_step (y_moveV (et (gS rfl (gS rfl (gS rfl g0))) rfl)) ?_
            refine l_eff (e_callV cal_108 (aC (et g0 rfl) aN) (m_opcode hX.ex hs hp)) (fun v12 w12 h12 => ?_)
            obtain ⟨rfl, u12⟩ := h12
            replace k7 := k7.up u12
            replace hX := hX.up u12
            replace U := U.tr u12
            refine l_nil ?_
            refine hK11 _ _ ?_
            refine fg5 0 2 3 4 11 (gS rfl (gS rfl (gS rfl (gS rfl (gS rfl g0))))) (gS rfl (gS rfl (gS rfl (gS rfl g0)))) (gS rfl (gS rfl (gS rfl g0))) (gS rfl (gS rfl g0)) g0 (fun g => ?_)
            refine c_block (fun Q13 hQ13 => ?_)
            refine c_seq (fun K14 hK14 => ?_)
            exact (by
              refine c_region ?_
              refine l_step (y_eql (et g0 rfl) rfl) ?_
              refine l_step (y_assignV (et g0 rfl)) ?_
              refine l_nil ?_
              refine hK14 _ _ ?_
              refine fg6 0 2 3 4 11 12 (gS rfl (gS rfl (gS rfl (gS rfl (gS rfl (gS rfl g0)))))) (gS rfl (gS rfl (gS rfl (gS rfl (gS rfl g0))))) (gS rfl (gS rfl (gS rfl (gS rfl g0)))) (gS rfl (gS rfl (gS rfl g0))) (gS rfl (gS rfl g0)) g0 (fun g => ?_)
              refine c_false (et g0 rfl) (by (exact decide_eq_false (by omega))) ?_
              refine c_seq (fun K16 hK16 => ?_)
              exact (by
                refine c_region ?_
                refine l_step (y_eql (et (gS rfl g0) rfl) rfl) ?_
                refine l_step (y_assignV (et g0 rfl)) ?_
                refine l_nil ?_
                refine hK16 _ _ ?_
                refine fg6 0 2 3 4 11 19 (gS rfl (gS rfl (gS rfl (gS rfl (gS rfl (gS rfl (gS rfl g0))))))) (gS rfl (gS rfl (gS rfl (gS rfl (gS rfl (gS rfl g0)))))) (gS rfl (gS rfl (gS rfl (gS rfl (gS rfl g0))))) (gS rfl (gS rfl (gS rfl (gS rfl g0)))) (gS rfl (gS rfl (gS rfl g0))) g0 (fun g => ?_)
                refine c_false (et g0 rfl) (by (exact decide_eq_false (by omega))) ?_
                refine c_seq (fun K18 hK18 => ?_)
                exact (by
                  refine c_region ?_
                  refine l_step (y_eql (et (gS rfl g0) rfl) rfl) ?_
                  refine l_step (y_assignV (et g0 rfl)) ?_
                  refine l_nil ?_
                  refine hK18 _ _ ?_
                  refine fg6 0 2 3 4 11 26 (gS rfl (gS rfl (gS rfl (gS rfl (gS rfl (gS rfl (gS rfl g0))))))) (gS rfl (gS rfl (gS rfl (gS rfl (gS rfl (gS rfl g0)))))) (gS rfl (gS rfl (gS rfl (gS rfl (gS rfl g0))))) (gS rfl (gS rfl (gS rfl (gS rfl g0)))) (gS rfl (gS rfl (gS rfl g0))) g0 (fun g => ?_)
                  refine c_false (et g0 rfl) (by (exact decide_eq_false (by omega))) ?_
                  refine c_seq (fun K20 hK20 => ?_)
                  exact (by
                    refine c_region ?_
                    refine l_step (y_eql (et (gS rfl g0) rfl) rfl) ?_
                    refine l_step (y_assignV (et g0 rfl)) ?_
                    refine l_nil ?_
                    refine hK20 _ _ ?_
                    refine fg6 0 2 3 4 11 33 (gS rfl (gS rfl (gS rfl (gS rfl (gS rfl (gS rfl (gS rfl g0))))))) (gS rfl (gS rfl (gS rfl (gS rfl (gS rfl (gS rfl g0)))))) (gS rfl (gS rfl (gS rfl (gS rfl (gS rfl g0))))) (gS rfl (gS rfl (gS rfl (gS rfl g0)))) (gS rfl (gS rfl (gS rfl g0))) g0 (fun g => ?_)
                    refine c_false (et g0 rfl) (by (exact decide_eq_false (by omega))) ?_
                    refine c_seq (fun K22 hK22 => ?_)
                    exact (by
                      refine c_region ?_
                      refine l_step (y_eql (et (gS rfl g0) rfl) rfl) ?_
                      refine l_step (y_assignV (et g0 rfl)) ?_
                      refine l_nil ?_
                      refine hK22 _ _ ?_
                      refine fg6 0 2 3 4 11 39 (gS rfl (gS rfl (gS rfl (gS rfl (gS rfl (gS rfl (gS rfl g0))))))) (gS rfl (gS rfl (gS rfl (gS rfl (gS rfl (gS rfl g0)))))) (gS rfl (gS rfl (gS rfl (gS rfl (gS rfl g0))))) (gS rfl (gS rfl (gS rfl (gS rfl g0)))) (gS rfl (gS rfl (gS rfl g0))) g0 (fun g => ?_)
                      refine c_false (et g0 rfl) (by (exact decide_eq_false (by omega))) ?_
                      refine c_seq (fun K24 hK24 => ?_)
                      exact (by
                        refine c_region ?_
                        refine l_step (y_eql (et (gS rfl g0) rfl) rfl) ?_
                        refine l_step (y_assignV (et g0 rfl)) ?_
                        refine l_nil ?_
                        refine hK24 _ _ ?_
                        refine fg6 0 2 3 4 11 50 (gS rfl (gS rfl (gS rfl (gS rfl (gS rfl (gS rfl (gS rfl g0))))))) (gS rfl (gS rfl (gS rfl (gS rfl (gS rfl (gS rfl g0)))))) (gS rfl (gS rfl (gS rfl (gS rfl (gS rfl g0))))) (gS rfl (gS rfl (gS rfl (gS rfl g0)))) (gS rfl (gS rfl (gS rfl g0))) g0 (fun g => ?_)
                        refine c_false (et g0 rfl) (by (exact decide_eq_false (by omega))) ?_
                        refine c_seq (fun K26 hK26 => ?_)
                        exact (by
                          refine c_region ?_
                          refine l_step (y_eql (et (gS rfl g0) rfl) rfl) ?_
                          refine l_step (y_assignV (et g0 rfl)) ?_
                          refine l_nil ?_
                          refine hK26 _ _ ?_
                          refine fg6 0 2 3 4 11 59 (gS rfl (gS rfl (gS rfl (gS rfl (gS rfl (gS rfl (gS rfl g0))))))) (gS rfl (gS rfl (gS rfl (gS rfl (gS rfl (gS rfl g0)))))) (gS rfl (gS rfl (gS rfl (gS rfl (gS rfl g0))))) (gS rfl (gS rfl (gS rfl (gS rfl g0)))) (gS rfl (gS rfl (gS rfl g0))) g0 (fun g => ?_)
                          refine c_true (et g0 rfl) (by (exact decide_eq_true (by omega))) ?_
                          exact (by
                            refine c_region ?_
                            refine l_step (y_moveV (et (gS rfl (gS rfl (gS rfl (gS rfl g0)))) rfl)) ?_
                            refine l_step (y_nil (et g0 rfl)) ?_
                            refine l_step (y_fld fld_71_12 (et g0 rfl)) ?_
                            refine l_step (y_load1 one_38 (et g0 rfl) (at1 (hX.ex.vl.c1 (hr5 0 _ rfl) (by omega)))) ?_
                            refine l_step (y_len Hvaa.underlying38 (et g0 rfl)) ?_
                            refine l_step (y_conv Hvaa.underlying3 Hvaa.underlying26 (et g0 rfl) (wrapU_id uk64 ?_)) ?_
                            omega
                            refine l_step (y_idxAC 0 0 Hvaa.underlying65 sz_26 (et (gS rfl (gS rfl (gS rfl (gS rfl (gS rfl (gS rfl (gS rfl (gS rfl (gS rfl g0))))))))) rfl) rfl rfl rfl) ?_
                            refine l_effN (e_store sz_26 (et g0 rfl) (cellsV (et (gS rfl g0) rfl) rfl) rfl (by first | exact one_bL _ | exact one_uL _ | (intro v hv; simp at hv; subst hv; rfl)) k7 (by (rw [List.size_toArray, wL_len]; exact Nat.le_of_ble_eq_true rfl))) (fun v28 w28 h28 => ?_)
                            obtain ⟨rfl, x28⟩ := h28
                            replace hX := hX.ch x28.ch (by first | omega | (intro b hb; first | (subst hb; first | exact ⟨by omega, fun hh => by have := hfz.lt hh; omega, by omega⟩ | exact ⟨by omega, by assumption, by omega⟩) | (rcases hb with hb | hb <;> (subst hb; first | exact ⟨by omega, fun hh => by have := hfz.lt hh; omega, by omega⟩ | exact ⟨by omega, by assumption, by omega⟩))))
                            replace k7 := x28.blk
                            replace U := U.st x28 (.inr f7)
                            rw [w0_put (by omega) rfl] at k7
                            refine l_nil ?_
                            refine hQ13 _ _ _ (in_normal ?_)
                            refine hK10 _ _ ?_
                            refine fg4 0 2 3 4 (gS rfl (gS rfl (gS rfl (gS rfl (gS rfl (gS rfl (gS rfl (gS rfl (gS rfl (gS rfl (gS rfl (gS rfl g0)))))))))))) (gS rfl (gS rfl (gS rfl (gS rfl (gS rfl (gS rfl (gS rfl (gS rfl (gS rfl (gS rfl (gS rfl g0))))))))))) (gS rfl (gS rfl (gS rfl (gS rfl (gS rfl (gS rfl (gS rfl (gS rfl (gS rfl (gS rfl g0)))))))))) (gS rfl (gS rfl (gS rfl (gS rfl (gS rfl (gS rfl (gS rfl (gS rfl (gS rfl g0))))))))) (fun g => ?_)
                            refine c_region ?_
                            refine l_step (y_moveV (et (gS rfl (gS rfl (gS rfl g0))) rfl)) ?_
                            refine l_step (y_moveV (et (gS rfl (gS rfl (gS rfl g0))) rfl)) ?_
                            refine l_step (y_moveV (et (gS rfl (gS rfl g0)) rfl)) ?_
                            refine l_step (y_loadB agg_65 sz_65 (et (gS rfl (gS rfl (gS rfl (gS rfl g0)))) rfl) rfl (at1B k7)) ?_
                            refine l_eff (e_callV cal_259 (aC (et (gS rfl (gS rfl (gS rfl g0))) rfl) (aC (et (gS rfl (gS rfl g0)) rfl) (aC (et (gS rfl g0) rfl) (aC rfl (aC (et g0 rfl) (aC (v := .int .u16 ((1 : Nat) : Int)) rfl aN)))))) (m_settle1 hX.ex hs hp rfl 0 _ 1 (by omega) hx8 (by omega) (by omega))) (fun v29 w29 h29 => ?_)
                            obtain ⟨rfl, cs29, y29⟩ := h29
                            replace k7 := k7.ch y29.et.go.ch (by intro hm; (have e0 := hm); omega)
                            replace hX := hX.trans y29
                            replace U := U.cc y29.et.go.ch (by intro b hb; exact .inl trivial)
                            refine l_nil ?_
                            refine end0 rfl ?_
                            exact ⟨rfl, _, hX⟩)))))))))))))
theorem m_opSur58 {w : World} {H : Store} {col : Nat → Nat} {bc : Nat} {cs : Array Value} {V : EV} {s : YSt} {sn : List Nat} {sv : List AW} {ms : List (List Nat)} {c : Nat} {low : List YF} {f : YF} (hE : EX w H col bc cs V s sn sv ms c) (hs : s.frames = low ++ [f]) (hp : s.phase = 1) {lo : List (List Nat)} {m : List Nat} (hms : ms = lo ++ [m]) (hq : opcN f = 58) (hpc9 : f.pc < 512) (hlt9 : f.stack.length < 64) (hor9 : s.origin < A160) (hpr9 : s.price < W256) (hrl9 : s.ret.length ≤ 717280) :
    Ret 194 [.pointer (some ⟨bc, 0, none⟩)] w (fun v w' => v = .tuple #[] ∧ ∃ cs', XT w H col w' H col bc cs' V { s with frames := low ++ [ansN f 0 (s.price)] } sn sv ms c) := by
  obtain ⟨n9, hn9, hR⟩ := hE.topF hs
  have hB := hE.fbT hs
  have h6 := hE.six hs
  have htop := hE.cTop hs
  have hphs := hE.cPh hp
  have hbp := hB.pc
  have hbs := hB.stk
  have hbg := hB.gas
  have hbc9 := hB.code
  have hnw := hE.vl.new
  have hfz := hE.vl.fz
  have hcC := hE.vl.colC
  have hbc0 := hE.vl.kC.lt
  have hX := XT.refl hE
  have hmx := hE.memMx hms
  obtain ⟨ca9, cc9, ia9, ic9, hr5, hcode, hinp⟩ := hR.r5
  obtain ⟨ra9, rc9, hret9, hrb9⟩ := hE.lx.ret
  have hbi9 := hB.input
  have hx8 : s.price < W256 := hpr9
  refine enter (n := 122) Hvaa.func194 rfl rfl (Nat.le_of_ble_eq_true rfl) ?_
  have U : Ch (fun _ => True) w w := Ch.refl _ w
  refine c_seq (fun K1 hK1 => ?_)
  exact (by
    refine c_region ?_
    refine l_step (y_moveV (et g0 rfl)) ?_
    refine l_eff (e_callV cal_183 (aC (et g0 rfl) aN) (m_running hX.ex hs hp)) (fun v2 w2 h2 => ?_)
    obtain ⟨rfl, u2⟩ := h2
    replace hX := hX.up u2
    replace U := U.tr u2
    refine l_step (y_assignV (et g0 rfl)) ?_
    refine l_nil ?_
    refine hK1 _ _ ?_
    refine fg2 0 2 (gS rfl (gS rfl (gS rfl g0))) g0 (fun g => ?_)
    refine c_seq (fun K3 hK3 => ?_)
    refine c_seq (fun K4 hK4 => ?_)
    exact (by
      refine c_region ?_
      refine l_step (y_moveV (et g0 rfl)) ?_
      refine l_step (y_eqlNil Hvaa.underlying276 (et g0 rfl) rfl) ?_
      refine l_nil ?_
      refine hK4 _ _ ?_
      refine fg3 0 2 8 (gS rfl (gS rfl (gS rfl g0))) (gS rfl (gS rfl g0)) g0 (fun g => ?_)
      refine c_false (et g0 rfl) rfl ?_
      refine c_skip ?_
      refine hK3 _ _ ?_
      refine fg2 0 2 (gS rfl (gS rfl g0)) (gS rfl g0) (fun g => ?_)
      refine c_seq (fun K6 hK6 => ?_)
      exact (by
        refine c_region ?_
        refine l_step (y_bld bN bld65_z) ?_
        refine l_eff (e_alloc zr_65) (fun v7 w7 h7 => ?_)
        obtain ⟨b7, rfl, n7⟩ := h7
        have f7 : w.heap.size ≤ b7 := Nat.le_trans U.size n7.fresh
        replace hX := hX.up n7.up
        replace U := U.tr n7.up
        have k7 := n7.blk
        obtain ⟨zs7, hz7, k7⟩ : ∃ cs : Array Value, cs.size = 4 ∧ Blk w7 b7 cs := ⟨_, rfl, k7⟩
        have nc7 : col b7 = 0 := hnw _ f7
        refine l_effN (e_store sz_65 (et g0 rfl) (cellsV (et (gS rfl g0) rfl) rfl) rfl (by exact one_uL _) k7 (by (first | (rw [hz7]; exact Nat.le_refl _) | (rw [List.size_toArray, wL_len]; exact Nat.le_refl _)))) (fun v8 w8 h8 => ?_)
        obtain ⟨rfl, x8⟩ := h8
        replace hX := hX.ch x8.ch (by first | omega | (intro b hb; first | (subst hb; first | exact ⟨by omega, fun hh => by have := hfz.lt hh; omega, by omega⟩ | exact ⟨by omega, by assumption, by omega⟩) | (rcases hb with hb | hb <;> (subst hb; first | exact ⟨by omega, fun hh => by have := hfz.lt hh; omega, by omega⟩ | exact ⟨by omega, by assumption, by omega⟩))))
        replace k7 := x8.blk.full (by first | (rw [hz7]; rfl) | (rw [List.size_toArray, wL_len, wL_len]))
        replace U := U.st x8 (.inr f7)
        refine l_nil ?_
        refine hK6 _ _ ?_
        refine fg3 0 2 3 (gS rfl (gS rfl (gS rfl g0))) (gS rfl (gS rfl g0)) g0 (fun g => ?_)
        refine c_seq (fun K9 hK9 => ?_)
        exact (by
          refine c_region ?_
          refine l_step y_assignC ?_
          refine l_nil ?_
          refine hK9 _ _ ?_
          refine c_seq (fun K10 hK10 => ?_)
          refine c_seq (fun K11 hK11 => ?_)
          exact (by
            refine c_region ?_
            refine l_step (y_moveV (et (gS rfl (gS rfl (gS rfl g0))) rfl)) ?_
            refine l_eff (e_callV cal_108 (aC (et g0 rfl) aN) (m_opcode hX.ex hs hp)) (fun v12 w12 h12 => ?_)
            obtain ⟨rfl, u12⟩ := h12
            replace k7 := k7.up u12
            replace hX := hX.up u12
            replace U := U.tr u12
            refine l_nil ?_
            refine hK11 _ _ ?_
            refine fg5 0 2 3 4 11 (gS rfl (gS rfl (gS rfl (gS rfl (gS rfl g0))))) (gS rfl (gS rfl (gS rfl (gS rfl g0)))) (gS rfl (gS rfl (gS rfl g0))) (gS rfl (gS rfl g0)) g0 (fun g => ?_)
            refine c_block (fun Q13 hQ13 => ?_)
            refine c_seq (fun K14 hK14 => ?_)
            exact (by
              refine c_region ?_
              refine l_step (y_eql (et g0 rfl) rfl) ?_
              refine l_step (y_assignV (et g0 rfl)) ?_
              refine l_nil ?_
              refine hK14 _ _ ?_
              refine fg6 0 2 3 4 11 12 (gS rfl (gS rfl (gS rfl (gS rfl (gS rfl (gS rfl g0)))))) (gS rfl (gS rfl (gS rfl (gS rfl (gS rfl g0))))) (gS rfl (gS rfl (gS rfl (gS rfl g0)))) (gS rfl (gS rfl (gS rfl g0))) (gS rfl (gS rfl g0)) g0 (fun g => ?_)
              refine c_false (et g0 rfl) (by (exact decide_eq_false (by omega))) ?_
              refine c_seq (fun K16 hK16 => ?_)
              exact (by
                refine c_region ?_
                refine l_step (y_eql (et (gS rfl g0) rfl) rfl) ?_
                refine l_step (y_assignV (et g0 rfl)) ?_
                refine l_nil ?_
                refine hK16 _ _ ?_
                refine fg6 0 2 3 4 11 19 (gS rfl (gS rfl (gS rfl (gS rfl (gS rfl (gS rfl (gS rfl g0))))))) (gS rfl (gS rfl (gS rfl (gS rfl (gS rfl (gS rfl g0)))))) (gS rfl (gS rfl (gS rfl (gS rfl (gS rfl g0))))) (gS rfl (gS rfl (gS rfl (gS rfl g0)))) (gS rfl (gS rfl (gS rfl g0))) g0 (fun g => ?_)
                refine c_false (et g0 rfl) (by (exact decide_eq_false (by omega))) ?_
                refine c_seq (fun K18 hK18 => ?_)
                exact (by
                  refine c_region ?_
                  refine l_step (y_eql (et (gS rfl g0) rfl) rfl) ?_
                  refine l_step (y_assignV (et g0 rfl)) ?_
                  refine l_nil ?_
                  refine hK18 _ _ ?_
                  refine fg6 0 2 3 4 11 26 (gS rfl (gS rfl (gS rfl (gS rfl (gS rfl (gS rfl (gS rfl g0))))))) (gS rfl (gS rfl (gS rfl (gS rfl (gS rfl (gS rfl g0)))))) (gS rfl (gS rfl (gS rfl (gS rfl (gS rfl g0))))) (gS rfl (gS rfl (gS rfl (gS rfl g0)))) (gS rfl (gS rfl (gS rfl g0))) g0 (fun g => ?_)
                  refine c_false (et g0 rfl) (by (exact decide_eq_false (by omega))) ?_
                  refine c_seq (fun K20 hK20 => ?_)
                  exact (by
                    refine c_region ?_
                    refine l_step (y_eql (et (gS rfl g0) rfl) rfl) ?_
                    refine l_step (y_assignV (et g0 rfl)) ?_
                    refine l_nil ?_
                    refine hK20 _ _ ?_
                    refine fg6 0 2 3 4 11 33 (gS rfl (gS rfl (gS rfl (gS rfl (gS rfl (gS rfl (gS rfl g0))))))) (gS rfl (gS rfl (gS rfl (gS rfl (gS rfl (gS rfl g0)))))) (gS rfl (gS rfl (gS rfl (gS rfl (gS rfl g0))))) (gS rfl (gS rfl (gS rfl (gS rfl g0)))) (gS rfl (gS rfl (gS rfl g0))) g0 (fun g => ?_)
                    refine c_false (et g0 rfl) (by (exact decide_eq_false (by omega))) ?_
                    refine c_seq (fun K22 hK22 => ?_)
                    exact (by
                      refine c_region ?_
                      refine l_step (y_eql (et (gS rfl g0) rfl) rfl) ?_
                      refine l_step (y_assignV (et g0 rfl)) ?_
                      refine l_nil ?_
                      refine hK22 _ _ ?_
                      refine fg6 0 2 3 4 11 39 (gS rfl (gS rfl (gS rfl (gS rfl (gS rfl (gS rfl (gS rfl g0))))))) (gS rfl (gS rfl (gS rfl (gS rfl (gS rfl (gS rfl g0)))))) (gS rfl (gS rfl (gS rfl (gS rfl (gS rfl g0))))) (gS rfl (gS rfl (gS rfl (gS rfl g0)))) (gS rfl (gS rfl (gS rfl g0))) g0 (fun g => ?_)
                      refine c_false (et g0 rfl) (by (exact decide_eq_false (by omega))) ?_
                      refine c_seq (fun K24 hK24 => ?_)
                      exact (by
                        refine c_region ?_
                        refine l_step (y_eql (et (gS rfl g0) rfl) rfl) ?_
                        refine l_step (y_assignV (et g0 rfl)) ?_
                        refine l_nil ?_
                        refine hK24 _ _ ?_
                        refine fg6 0 2 3 4 11 50 (gS rfl (gS rfl (gS rfl (gS rfl (gS rfl (gS rfl (gS rfl g0))))))) (gS rfl (gS rfl (gS rfl (gS rfl (gS rfl (gS rfl g0)))))) (gS rfl (gS rfl (gS rfl (gS rfl (gS rfl g0))))) (gS rfl (gS rfl (gS rfl (gS rfl g0)))) (gS rfl (gS rfl (gS rfl g0))) g0 (fun g => ?_)
                        refine c_false (et g0 rfl) (by (exact decide_eq_false (by omega))) ?_
                        refine c_seq (fun K26 hK26 => ?_)
                        exact (by
                          refine c_region ?_
                          refine l_step (y_eql (et (gS rfl g0) rfl) rfl) ?_
                          refine l_step (y_assignV (et g0 rfl)) ?_
                          refine l_nil ?_
                          refine hK26 _ _ ?_
                          refine fg6 0 2 3 4 11 59 (gS rfl (gS rfl (gS rfl (gS rfl (gS rfl (gS rfl (gS rfl g0))))))) (gS rfl (gS rfl (gS rfl (gS rfl (gS rfl (gS rfl g0)))))) (gS rfl (gS rfl (gS rfl (gS rfl (gS rfl g0))))) (gS rfl (gS rfl (gS rfl (gS rfl g0)))) (gS rfl (gS rfl (gS rfl g0))) g0 (fun g => ?_)
                          refine c_false (et g0 rfl) (by (exact decide_eq_false (by omega))) ?_
                          refine c_seq (fun K28 hK28 => ?_)
                          exact (by
                            refine c_region ?_
                            refine l_step (y_eql (et (gS rfl g0) rfl) rfl) ?_
                            refine l_step (y_assignV (et g0 rfl)) ?_
                            refine l_nil ?_
                            refine hK28 _ _ ?_
                            refine fg6 0 2 3 4 11 68 (gS rfl (gS rfl (gS rfl (gS rfl (gS rfl (gS rfl (gS rfl g0))))))) (gS rfl (gS rfl (gS rfl (gS rfl (gS rfl (gS rfl g0)))))) (gS rfl (gS rfl (gS rfl (gS rfl (gS rfl g0))))) (gS rfl (gS rfl (gS rfl (gS rfl g0)))) (gS rfl (gS rfl (gS rfl g0))) g0 (fun g => ?_)
                            refine c_true (et g0 rfl) (by (exact decide_eq_true (by omega))) ?_
                            exact (by
                              refine c_region ?_
                              refine l_step (y_moveV (et (gS rfl (gS rfl (gS rfl (gS rfl (gS rfl g0))))) rfl)) ?_
                              refine l_step (y_nil (et g0 rfl)) ?_
                              refine l_step (y_fld fld_75_8 (et g0 rfl)) ?_
                              refine l_step (y_loadR agg_65 sz_65 (et g0 rfl) rfl (at1R (hX.ex.vl.kC.rowO hX.ex.lx.prc (by omega)))) ?_
                              refine l_effN (e_store sz_65 (et (gS rfl (gS rfl (gS rfl (gS rfl (gS rfl (gS rfl (gS rfl g0))))))) rfl) (cellsV (et g0 rfl) rfl) rfl (by exact one_uL _) k7 (by (first | (rw [hz7]; exact Nat.le_refl _) | (rw [List.size_toArray, wL_len]; exact Nat.le_refl _)))) (fun v30 w30 h30 => ?_)
                              obtain ⟨rfl, x30⟩ := h30
                              replace hX := hX.ch x30.ch (by first | omega | (intro b hb; first | (subst hb; first | exact ⟨by omega, fun hh => by have := hfz.lt hh; omega, by omega⟩ | exact ⟨by omega, by assumption, by omega⟩) | (rcases hb with hb | hb <;> (subst hb; first | exact ⟨by omega, fun hh => by have := hfz.lt hh; omega, by omega⟩ | exact ⟨by omega, by assumption, by omega⟩))))
                              replace k7 := x30.blk.full (by first | (rw [hz7]; rfl) | (rw [List.size_toArray, wL_len, wL_len]))
                              replace U := U.st x30 (.inr f7)
                              refine l_nil ?_
                              refine hQ13 _ _ _ (in_normal ?_)
                              refine hK10 _ _ ?_
                              refine fg4 0 2 3 4 (gS rfl (gS rfl (gS rfl (gS rfl (gS rfl (gS rfl (gS rfl (gS rfl (gS rfl g0))))))))) (gS rfl (gS rfl (gS rfl (gS rfl (gS rfl (gS rfl (gS rfl (gS rfl g0)))))))) (gS rfl (gS rfl (gS rfl (gS rfl (gS rfl (gS rfl (gS rfl g0))))))) (gS rfl (gS rfl (gS rfl (gS rfl (gS rfl (gS rfl g0)))))) (fun g => ?_)
                              refine c_region ?_
                              refine l_step (y_moveV (et (gS rfl (gS rfl (gS rfl g0))) rfl)) ?_
                              refine l_step (y_moveV (et (gS rfl (gS rfl (gS rfl g0))) rfl)) ?_
                              refine l_step (y_moveV (et (gS rfl (gS rfl g0)) rfl)) ?_
                              refine l_step (y_loadB agg_65 sz_65 (et (gS rfl (gS rfl (gS rfl (gS rfl g0)))) rfl) rfl (at1B k7)) ?_
                              refine l_eff (e_callV cal_259 (aC (et (gS rfl (gS rfl (gS rfl g0))) rfl) (aC (et (gS rfl (gS rfl g0)) rfl) (aC (et (gS rfl g0) rfl) (aC rfl (aC (et g0 rfl) (aC (v := .int .u16 ((1 : Nat) : Int)) rfl aN)))))) (m_settle1 hX.ex hs hp rfl 0 _ 1 (by omega) hx8 (by omega) (by omega))) (fun v31 w31 h31 => ?_)
                              obtain ⟨rfl, cs31, y31⟩ := h31
                              replace k7 := k7.ch y31.et.go.ch (by intro hm; (have e0 := hm); omega)
                              replace hX := hX.trans y31
                              replace U := U.cc y31.et.go.ch (by intro b hb; exact .inl trivial)
                              refine l_nil ?_
                              refine end0 rfl ?_
                              exact ⟨rfl, _, hX⟩))))))))))))))
theorem m_opSur61 {w : World} {H : Store} {col : Nat → Nat} {bc : Nat} {cs : Array Value} {V : EV} {s : YSt} {sn : List Nat} {sv : List AW} {ms : List (List Nat)} {c : Nat} {low : List YF} {f : YF} (hE : EX w H col bc cs V s sn sv ms c) (hs : s.frames = low ++ [f]) (hp : s.phase = 1) {lo : List (List Nat)} {m : List Nat} (hms : ms = lo ++ [m]) (hq : opcN f = 61) (hpc9 : f.pc < 512) (hlt9 : f.stack.length < 64) (hor9 : s.origin < A160) (hpr9 : s.price < W256) (hrl9 : s.ret.length ≤ 717280) :
    Ret 194 [.pointer (some ⟨bc, 0, none⟩)] w (fun v w' => v = .tuple #[] ∧ ∃ cs', XT w H col w' H col bc cs' V { s with frames := low ++ [ansN f 0 (s.ret.length)] } sn sv ms c) := by
  obtain ⟨n9, hn9, hR⟩ := hE.topF hs
  have hB := hE.fbT hs
  have h6 := hE.six hs
  have htop := hE.cTop hs
  have hphs := hE.cPh hp
  have hbp := hB.pc
  have hbs := hB.stk
  have hbg := hB.gas
  have hbc9 := hB.code
  have hnw := hE.vl.new
  have hfz := hE.vl.fz
  have hcC := hE.vl.colC
  have hbc0 := hE.vl.kC.lt
  have hX := XT.refl hE
  have hmx := hE.memMx hms
  obtain ⟨ca9, cc9, ia9, ic9, hr5, hcode, hinp⟩ := hR.r5
  obtain ⟨ra9, rc9, hret9, hrb9⟩ := hE.lx.ret
  have hbi9 := hB.input
  have hx8 : s.ret.length < W256 := lt_W (by omega)
  refine enter (n := 122) Hvaa.func194 rfl rfl (Nat.le_of_ble_eq_true rfl) ?_
  have U : Ch (fun _ => True) w w := Ch.refl _ w
  refine c_seq (fun K1 hK1 => ?_)
  exact (by
    refine c_region ?_
    refine l_step (y_moveV (et g0 rfl)) ?_
    refine l_eff (e_callV cal_183 (aC (et g0 rfl) aN) (m_running hX.ex hs hp)) (fun v2 w2 h2 => ?_)
    obtain ⟨rfl, u2⟩ := h2
    replace hX := hX.up u2
    replace U := U.tr u2
    refine l_step (y_assignV (et g0 rfl)) ?_
    refine l_nil ?_
    refine hK1 _ _ ?_
    refine fg2 0 2 (gS rfl (gS rfl (gS rfl g0))) g0 (fun g => ?_)
    refine c_seq (fun K3 hK3 => ?_)
    refine c_seq (fun K4 hK4 => ?_)
    exact (by
      refine c_region ?_
      refine l_step (y_moveV (et g0 rfl)) ?_
      refine l_step (y_eqlNil Hvaa.underlying276 (et g0 rfl) rfl) ?_
      refine l_nil ?_
      refine hK4 _ _ ?_
      refine fg3 0 2 8 (gS rfl (gS rfl (gS rfl g0))) (gS rfl (gS rfl g0)) g0 (fun g => ?_)
      refine c_false (et g0 rfl) rfl ?_
      refine c_skip ?_
      refine hK3 _ _ ?_
      refine fg2 0 2 (gS rfl (gS rfl g0)) (gS rfl g0) (fun g => ?_)
      refine c_seq (fun K6 hK6 => ?_)
      exact (by
        refine c_region ?_
        refine l_step (y_bld bN bld65_z) ?_
        refine l_eff (e_alloc zr_65) (fun v7 w7 h7 => ?_)
        obtain ⟨b7, rfl, n7⟩ := h7
        have f7 : w.heap.size ≤ b7 := Nat.le_trans U.size n7.fresh
        replace hX := hX.up n7.up
        replace U := U.tr n7.up
        have k7 := n7.blk
        obtain ⟨zs7, hz7, k7⟩ : ∃ cs : Array Value, cs.size = 4 ∧ Blk w7 b7 cs := ⟨_, rfl, k7⟩
        have nc7 : col b7 = 0 := hnw _ f7
        refine l_effN (e_store sz_65 (et g0 rfl) (cellsV (et (gS rfl g0) rfl) rfl) rfl (by exact one_uL _) k7 (by (first | (rw [hz7]; exact Nat.le_refl _) | (rw [List.size_toArray, wL_len]; exact Nat.le_refl _)))) (fun v8 w8 h8 => ?_)
        obtain ⟨rfl, x8⟩ := h8
        replace hX := hX.ch x8.ch (by first | omega | (intro b hb; first | (subst hb; first | exact ⟨by omega, fun hh => by have := hfz.lt hh; omega, by omega⟩ | exact ⟨by omega, by assumption, by omega⟩) | (rcases hb with hb | hb <;> (subst hb; first | exact ⟨by omega, fun hh => by have := hfz.lt hh; omega, by omega⟩ | exact ⟨by omega, by assumption, by omega⟩))))
        replace k7 := x8.blk.full (by first | (rw [hz7]; rfl) | (rw [List.size_toArray, wL_len, wL_len]))
        replace U := U.st x8 (.inr f7)
        refine l_nil ?_
        refine hK6 _ _ ?_
        refine fg3 0 2 3 (gS rfl (gS rfl (gS rfl g0))) (gS rfl (gS rfl g0)) g0 (fun g => ?_)
        refine c_seq (fun K9 hK9 => ?_)
        exact (by
          refine c_region ?_
          refine l_step y_assignC ?_
          refine l_nil ?_
          refine hK9 _ _ ?_
          refine c_seq (fun K10 hK10 => ?_)
          refine c_seq (fun K11 hK11 => ?_)
          exact (by
            refine c_region ?_
            refine l_step (y_moveV (et (gS rfl (gS rfl (gS rfl g0))) rfl)) ?_
            refine l_eff (e_callV cal_108 (aC (et g0 rfl) aN) (m_opcode hX.ex hs hp)) (fun v12 w12 h12 => ?_)
            obtain ⟨rfl, u12⟩ := h12
            replace k7 := k7.up u12
            replace hX := hX.up u12
            replace U := U.tr u12
            refine l_nil ?_
            refine hK11 _ _ ?_
            refine fg5 0 2 3 4 11 (gS rfl (gS rfl (gS rfl (gS rfl (gS rfl g0))))) (gS rfl (gS rfl (gS rfl (gS rfl g0)))) (gS rfl (gS rfl (gS rfl g0))) (gS rfl (gS rfl g0)) g0 (fun g => ?_)
            refine c_block (fun Q13 hQ13 => ?_)
            refine c_seq (fun K14 hK14 => ?_)
            exact (by
              refine c_region ?_
              refine l_step (y_eql (et g0 rfl) rfl) ?_
              refine l_step (y_assignV (et g0 rfl)) ?_
              refine l_nil ?_
              refine hK14 _ _ ?_
              refine fg6 0 2 3 4 11 12 (gS rfl (gS rfl (gS rfl (gS rfl (gS rfl (gS rfl g0)))))) (gS rfl (gS rfl (gS rfl (gS rfl (gS rfl g0))))) (gS rfl (gS rfl (gS rfl (gS rfl g0)))) (gS rfl (gS rfl (gS rfl g0))) (gS rfl (gS rfl g0)) g0 (fun g => ?_)
              refine c_false (et g0 rfl) (by (exact decide_eq_false (by omega))) ?_
              refine c_seq (fun K16 hK16 => ?_)
              exact (by
                refine c_region ?_
                refine l_step (y_eql (et (gS rfl g0) rfl) rfl) ?_
                refine l_step (y_assignV (et g0 rfl)) ?_
                refine l_nil ?_
                refine hK16 _ _ ?_
                refine fg6 0 2 3 4 11 19 (gS rfl (gS rfl (gS rfl (gS rfl (gS rfl (gS rfl (gS rfl g0))))))) (gS rfl (gS rfl (gS rfl (gS rfl (gS rfl (gS rfl g0)))))) (gS rfl (gS rfl (gS rfl (gS rfl (gS rfl g0))))) (gS rfl (gS rfl (gS rfl (gS rfl g0)))) (gS rfl (gS rfl (gS rfl g0))) g0 (fun g => ?_)
                refine c_false (et g0 rfl) (by (exact decide_eq_false (by omega))) ?_
                refine c_seq (fun K18 hK18 => ?_)
                exact (by
                  refine c_region ?_
                  refine l_step (y_eql (et (gS rfl g0) rfl) rfl) ?_
                  refine l_step (y_assignV (et g0 rfl)) ?_
                  refine l_nil ?_
                  refine hK18 _ _ ?_
                  refine fg6 0 2 3 4 11 26 (gS rfl (gS rfl (gS rfl (gS rfl (gS rfl (gS rfl (gS rfl g0))))))) (gS rfl (gS rfl (gS rfl (gS rfl (gS rfl (gS rfl g0)))))) (gS rfl (gS rfl (gS rfl (gS rfl (gS rfl g0))))) (gS rfl (gS rfl (gS rfl (gS rfl g0)))) (gS rfl (gS rfl (gS rfl g0))) g0 (fun g => ?_)
                  refine c_false (et g0 rfl) (by (exact decide_eq_false (by omega))) ?_
                  refine c_seq (fun K20 hK20 => ?_)
                  exact (by
                    refine c_region ?_
                    refine l_step (y_eql (et (gS rfl g0) rfl) rfl) ?_
                    refine l_step (y_assignV (et g0 rfl)) ?_
                    refine l_nil ?_
                    refine hK20 _ _ ?_
                    refine fg6 0 2 3 4 11 33 (gS rfl (gS rfl (gS rfl (gS rfl (gS rfl (gS rfl (gS rfl g0))))))) (gS rfl (gS rfl (gS rfl (gS rfl (gS rfl (gS rfl g0)))))) (gS rfl (gS rfl (gS rfl (gS rfl (gS rfl g0))))) (gS rfl (gS rfl (gS rfl (gS rfl g0)))) (gS rfl (gS rfl (gS rfl g0))) g0 (fun g => ?_)
                    refine c_false (et g0 rfl) (by (exact decide_eq_false (by omega))) ?_
                    refine c_seq (fun K22 hK22 => ?_)
                    exact (by
                      refine c_region ?_
                      refine l_step (y_eql (et (gS rfl g0) rfl) rfl) ?_
                      refine l_step (y_assignV (et g0 rfl)) ?_
                      refine l_nil ?_
                      refine hK22 _ _ ?_
                      refine fg6 0 2 3 4 11 39 (gS rfl (gS rfl (gS rfl (gS rfl (gS rfl (gS rfl (gS rfl g0))))))) (gS rfl (gS rfl (gS rfl (gS rfl (gS rfl (gS rfl g0)))))) (gS rfl (gS rfl (gS rfl (gS rfl (gS rfl g0))))) (gS rfl (gS rfl (gS rfl (gS rfl g0)))) (gS rfl (gS rfl (gS rfl g0))) g0 (fun g => ?_)
                      refine c_false (et g0 rfl) (by (exact decide_eq_false (by omega))) ?_
                      refine c_seq (fun K24 hK24 => ?_)
                      exact (by
                        refine c_region ?_
                        refine l_step (y_eql (et (gS rfl g0) rfl) rfl) ?_
                        refine l_step (y_assignV (et g0 rfl)) ?_
                        refine l_nil ?_
                        refine hK24 _ _ ?_
                        refine fg6 0 2 3 4 11 50 (gS rfl (gS rfl (gS rfl (gS rfl (gS rfl (gS rfl (gS rfl g0))))))) (gS rfl (gS rfl (gS rfl (gS rfl (gS rfl (gS rfl g0)))))) (gS rfl (gS rfl (gS rfl (gS rfl (gS rfl g0))))) (gS rfl (gS rfl (gS rfl (gS rfl g0)))) (gS rfl (gS rfl (gS rfl g0))) g0 (fun g => ?_)
                        refine c_false (et g0 rfl) (by (exact decide_eq_false (by omega))) ?_
                        refine c_seq (fun K26 hK26 => ?_)
                        exact (by
                          refine c_region ?_
                          refine l_step (y_eql (et (gS rfl g0) rfl) rfl) ?_
                          refine l_step (y_assignV (et g0 rfl)) ?_
                          refine l_nil ?_
                          refine hK26 _ _ ?_
                          refine fg6 0 2 3 4 11 59 (gS rfl (gS rfl (gS rfl (gS rfl (gS rfl (gS rfl (gS rfl g0))))))) (gS rfl (gS rfl (gS rfl (gS rfl (gS rfl (gS rfl g0)))))) (gS rfl (gS rfl (gS rfl (gS rfl (gS rfl g0))))) (gS rfl (gS rfl (gS rfl (gS rfl g0)))) (gS rfl (gS rfl (gS rfl g0))) g0 (fun g => ?_)
                          refine c_false (et g0 rfl) (by (exact decide_eq_false (by omega))) ?_
                          refine c_seq (fun K28 hK28 => ?_)
                          exact (by
                            refine c_region ?_
                            refine l_step (y_eql (et (gS rfl g0) rfl) rfl) ?_
                            refine l_step (y_assignV (et g0 rfl)) ?_
                            refine l_nil ?_
                            refine hK28 _ _ ?_
                            refine fg6 0 2 3 4 11 68 (gS rfl (gS rfl (gS rfl (gS rfl (gS rfl (gS rfl (gS rfl g0))))))) (gS rfl (gS rfl (gS rfl (gS rfl (gS rfl (gS rfl g0)))))) (gS rfl (gS rfl (gS rfl (gS rfl (gS rfl g0))))) (gS rfl (gS rfl (gS rfl (gS rfl g0)))) (gS rfl (gS rfl (gS rfl g0))) g0 (fun g => ?_)
                            refine c_false (et g0 rfl) (by (exact decide_eq_false (by omega))) ?_
                            refine c_seq (fun K30 hK30 => ?_)
                            exact (by
                              refine c_region ?_
                              refine l_step (y_eql (et (gS rfl g0) rfl) rfl) ?_
                              refine l_step (y_assignV (et g0 rfl)) ?_
                              refine l_nil ?_
                              refine hK30 _ _ ?_
                              refine fg6 0 2 3 4 11 74 (gS rfl (gS rfl (gS rfl (gS rfl (gS rfl (gS rfl (gS rfl g0))))))) (gS rfl (gS rfl (gS rfl (gS rfl (gS rfl (gS rfl g0)))))) (gS rfl (gS rfl (gS rfl (gS rfl (gS rfl g0))))) (gS rfl (gS rfl (gS rfl (gS rfl g0)))) (gS rfl (gS rfl (gS rfl g0))) g0 (fun g => ?_)
                              refine c_true (et g0 rfl) (by (exact decide_eq_true (by omega))) ?_
                              exact (by
                                refine c_region ?_
                                refine l_step (y_moveV (et (gS rfl (gS rfl (gS rfl (gS rfl (gS rfl g0))))) rfl)) ?_
                                refine l_step (y_nil (et g0 rfl)) ?_
                                refine l_step (y_fld fld_75_5 (et g0 rfl)) ?_
                                refine l_step (y_load1 one_38 (et g0 rfl) (at1 (hX.ex.vl.c1 hret9 rfl))) ?_
                                refine l_step (y_len Hvaa.underlying38 (et g0 rfl)) ?_
                                refine l_step (y_conv Hvaa.underlying3 Hvaa.underlying26 (et g0 rfl) (wrapU_id uk64 ?_)) ?_
                                omega
                                refine l_step (y_idxAC 0 0 Hvaa.underlying65 sz_26 (et (gS rfl (gS rfl (gS rfl (gS rfl (gS rfl (gS rfl (gS rfl (gS rfl (gS rfl g0))))))))) rfl) rfl rfl rfl) ?_
                                refine l_effN (e_store sz_26 (et g0 rfl) (cellsV (et (gS rfl g0) rfl) rfl) rfl (by first | exact one_bL _ | exact one_uL _ | (intro v hv; simp at hv; subst hv; rfl)) k7 (by (rw [List.size_toArray, wL_len]; exact Nat.le_of_ble_eq_true rfl))) (fun v32 w32 h32 => ?_)
                                obtain ⟨rfl, x32⟩ := h32
                                replace hX := hX.ch x32.ch (by first | omega | (intro b hb; first | (subst hb; first | exact ⟨by omega, fun hh => by have := hfz.lt hh; omega, by omega⟩ | exact ⟨by omega, by assumption, by omega⟩) | (rcases hb with hb | hb <;> (subst hb; first | exact ⟨by omega, fun hh => by have := hfz.lt hh; omega, by omega⟩ | exact ⟨by omega, by assumption, by omega⟩))))
                                replace k7 := x32.blk
                                replace U := U.st x32 (.inr f7)
                                rw [w0_put (by omega) rfl] at k7
                                refine l_nil ?_
                                refine hQ13 _ _ _ (in_normal ?_)
                                refine hK10 _ _ ?_
                                refine fg4 0 2 3 4 (gS rfl (gS rfl (gS rfl (gS rfl (gS rfl (gS rfl (gS rfl (gS rfl (gS rfl (gS rfl (gS rfl (gS rfl g0)))))))))))) (gS rfl (gS rfl (gS rfl (gS rfl (gS rfl (gS rfl (gS rfl (gS rfl (gS rfl (gS rfl (gS rfl g0))))))))))) (gS rfl (gS rfl (gS rfl (gS rfl (gS rfl (gS rfl (gS rfl (gS rfl (gS rfl (gS rfl g0)))))))))) (gS rfl (gS rfl (gS rfl (gS rfl (gS rfl (gS rfl (gS rfl (gS rfl (gS rfl g0))))))))) (fun g => ?_)
                                refine c_region ?_
                                refine l_step (y_moveV (et (gS rfl (gS rfl (gS rfl g0))) rfl)) ?_
                                refine l_step (y_moveV (et (gS rfl (gS rfl (gS rfl g0))) rfl)) ?_
                                refine l_step (y_moveV (et (gS rfl (gS rfl g0)) rfl)) ?_
                                refine l_step (y_loadB agg_65 sz_65 (et (gS rfl (gS rfl (gS rfl (gS rfl g0)))) rfl) rfl (at1B k7)) ?_
                                refine l_eff (e_callV cal_259 (aC (et (gS rfl (gS rfl (gS rfl g0))) rfl) (aC (et (gS rfl (gS rfl g0)) rfl) (aC (et (gS rfl g0) rfl) (aC rfl (aC (et g0 rfl) (aC (v := .int .u16 ((1 : Nat) : Int)) rfl aN)))))) (m_settle1 hX.ex hs hp rfl 0 _ 1 (by omega) hx8 (by omega) (by omega))) (fun v33 w33 h33 => ?_)
                                obtain ⟨rfl, cs33, y33⟩ := h33
                                replace k7 := k7.ch y33.et.go.ch (by intro hm; (have e0 := hm); omega)
                                replace hX := hX.trans y33
                                replace U := U.cc y33.et.go.ch (by intro b hb; exact .inl trivial)
                                refine l_nil ?_
                                refine end0 rfl ?_
                                exact ⟨rfl, _, hX⟩)))))))))))))))
theorem m_opSur71 {w : World} {H : Store} {col : Nat → Nat} {bc : Nat} {cs : Array Value} {V : EV} {s : YSt} {sn : List Nat} {sv : List AW} {ms : List (List Nat)} {c : Nat} {low : List YF} {f : YF} (hE : EX w H col bc cs V s sn sv ms c) (hs : s.frames = low ++ [f]) (hp : s.phase = 1) {lo : List (List Nat)} {m : List Nat} (hms : ms = lo ++ [m]) (hq : opcN f = 71) (hpc9 : f.pc < 512) (hlt9 : f.stack.length < 64) (hor9 : s.origin < A160) (hpr9 : s.price < W256) (hrl9 : s.ret.length ≤ 717280) :
    Ret 194 [.pointer (some ⟨bc, 0, none⟩)] w (fun v w' => v = .tuple #[] ∧ ∃ cs', XT w H col w' H col bc cs' V { s with frames := low ++ [ansN f 0 ((acctAt s.now.accts f.self).bal)] } sn sv ms c) := by
  obtain ⟨n9, hn9, hR⟩ := hE.topF hs
  have hB := hE.fbT hs
  have h6 := hE.six hs
  have htop := hE.cTop hs
  have hphs := hE.cPh hp
  have hbp := hB.pc
  have hbs := hB.stk
  have hbg := hB.gas
  have hbc9 := hB.code
  have hnw := hE.vl.new
  have hfz := hE.vl.fz
  have hcC := hE.vl.colC
  have hbc0 := hE.vl.kC.lt
  have hX := XT.refl hE
  have hmx := hE.memMx hms
  obtain ⟨ca9, cc9, ia9, ic9, hr5, hcode, hinp⟩ := hR.r5
  obtain ⟨ra9, rc9, hret9, hrb9⟩ := hE.lx.ret
  have hbi9 := hB.input
  have hx8 : (acctAt s.now.accts f.self).bal < W256 := by have h9 := hE.balt f.self; rw [hE.bl] at h9; exact h9
  refine enter (n := 122) Hvaa.func194 rfl rfl (Nat.le_of_ble_eq_true rfl) ?_
  have U : Ch (fun _ => True) w w := Ch.refl _ w
  refine c_seq (fun K1 hK1 => ?_)
  exact (by
    refine c_region ?_
    refine l_step (y_moveV (et g0 rfl)) ?_
    refine l_eff (e_callV cal_183 (aC (et g0 rfl) aN) (m_running hX.ex hs hp)) (fun v2 w2 h2 => ?_)
    obtain ⟨rfl, u2⟩ := h2
    replace hX := hX.up u2
    replace U := U.tr u2
    refine l_step (y_assignV (et g0 rfl)) ?_
    refine l_nil ?_
    refine hK1 _ _ ?_
    refine fg2 0 2 (gS rfl (gS rfl (gS rfl g0))) g0 (fun g => ?_)
    refine c_seq (fun K3 hK3 => ?_)
    refine c_seq (fun K4 hK4 => ?_)
    exact (by
      refine c_region ?_
      refine l_step (y_moveV (et g0 rfl)) ?_
      refine l_step (y_eqlNil Hvaa.underlying276 (et g0 rfl) rfl) ?_
      refine l_nil ?_
      refine hK4 _ _ ?_
      refine fg3 0 2 8 (gS rfl (gS rfl (gS rfl g0))) (gS rfl (gS rfl g0)) g0 (fun g => ?_)
      refine c_false (et g0 rfl) rfl ?_
      refine c_skip ?_
      refine hK3 _ _ ?_
      refine fg2 0 2 (gS rfl (gS rfl g0)) (gS rfl g0) (fun g => ?_)
      refine c_seq (fun K6 hK6 => ?_)
      exact (by
        refine c_region ?_
        refine l_step (y_bld bN bld65_z) ?_
        refine l_eff (e_alloc zr_65) (fun v7 w7 h7 => ?_)
        obtain ⟨b7, rfl, n7⟩ := h7
        have f7 : w.heap.size ≤ b7 := Nat.le_trans U.size n7.fresh
        replace hX := hX.up n7.up
        replace U := U.tr n7.up
        have k7 := n7.blk
        obtain ⟨zs7, hz7, k7⟩ : ∃ cs : Array Value, cs.size = 4 ∧ Blk w7 b7 cs := ⟨_, rfl, k7⟩
        have nc7 : col b7 = 0 := hnw _ f7
        refine l_effN (e_store sz_65 (et g0 rfl) (cellsV (et (gS rfl g0) rfl) rfl) rfl (by exact one_uL _) k7 (by (first | (rw [hz7]; exact Nat.le_refl _) | (rw [List.size_toArray, wL_len]; exact Nat.le_refl _)))) (fun v8 w8 h8 => ?_)
        obtain ⟨rfl, x8⟩ := h8
        replace hX := hX.ch x8.ch (by first | omega | (intro b hb; first | (subst hb; first | exact ⟨by omega, fun hh => by have := hfz.lt hh; omega, by omega⟩ | exact ⟨by omega, by assumption, by omega⟩) | (rcases hb with hb | hb <;> (subst hb; first | exact ⟨by omega, fun hh => by have := hfz.lt hh; omega, by omega⟩ | exact ⟨by omega, by assumption, by omega⟩))))
        replace k7 := x8.blk.full (by first | (rw [hz7]; rfl) | (rw [List.size_toArray, wL_len, wL_len]))
        replace U := U.st x8 (.inr f7)
        refine l_nil ?_
        refine hK6 _ _ ?_
        refine fg3 0 2 3 (gS rfl (gS rfl (gS rfl g0))) (gS rfl (gS rfl g0)) g0 (fun g => ?_)
        refine c_seq (fun K9 hK9 => ?_)
        exact (by
          refine c_region ?_
          refine l_step y_assignC ?_
          refine l_nil ?_
          refine hK9 _ _ ?_
          refine c_seq (fun K10 hK10 => ?_)
          refine c_seq (fun K11 hK11 => ?_)
          exact (by
            refine c_region ?_
            refine l_step (y_moveV (et (gS rfl (gS rfl (gS rfl g0))) rfl)) ?_
            refine l_eff (e_callV cal_108 (aC (et g0 rfl) aN) (m_opcode hX.ex hs hp)) (fun v12 w12 h12 => ?_)
            obtain ⟨rfl, u12⟩ := h12
            replace k7 := k7.up u12
            replace hX := hX.up u12
            replace U := U.tr u12
            refine l_nil ?_
            refine hK11 _ _ ?_
            refine fg5 0 2 3 4 11 (gS rfl (gS rfl (gS rfl (gS rfl (gS rfl g0))))) (gS rfl (gS rfl (gS rfl (gS rfl g0)))) (gS rfl (gS rfl (gS rfl g0))) (gS rfl (gS rfl g0)) g0 (fun g => ?_)
            refine c_block (fun Q13 hQ13 => ?_)
            refine c_seq (fun K14 hK14 => ?_)
            exact (by
              refine c_region ?_
              refine l_step (y_eql (et g0 rfl) rfl) ?_
              refine l_step (y_assignV (et g0 rfl)) ?_
              refine l_nil ?_
              refine hK14 _ _ ?_
              refine fg6 0 2 3 4 11 12 (gS rfl (gS rfl (gS rfl (gS rfl (gS rfl (gS rfl g0)))))) (gS rfl (gS rfl (gS rfl (gS rfl (gS rfl g0))))) (gS rfl (gS rfl (gS rfl (gS rfl g0)))) (gS rfl (gS rfl (gS rfl g0))) (gS rfl (gS rfl g0)) g0 (fun g => ?_)
              refine c_false (et g0 rfl) (by (exact decide_eq_false (by omega))) ?_
              refine c_seq (fun K16 hK16 => ?_)
              exact (by
                refine c_region ?_
                refine l_step (y_eql (et (gS rfl g0) rfl) rfl) ?_
                refine l_step (y_assignV (et g0 rfl)) ?_
                refine l_nil ?_
                refine hK16 _ _ ?_
                refine fg6 0 2 3 4 11 19 (gS rfl (gS rfl (gS rfl (gS rfl (gS rfl (gS rfl (gS rfl g0))))))) (gS rfl (gS rfl (gS rfl (gS rfl (gS rfl (gS rfl g0)))))) (gS rfl (gS rfl (gS rfl (gS rfl (gS rfl g0))))) (gS rfl (gS rfl (gS rfl (gS rfl g0)))) (gS rfl (gS rfl (gS rfl g0))) g0 (fun g => ?_)
                refine c_false (et g0 rfl) (by (exact decide_eq_false (by omega))) ?_
                refine c_seq (fun K18 hK18 => ?_)
                exact (by
                  refine c_region ?_
                  refine l_step (y_eql (et (gS rfl g0) rfl) rfl) ?_
                  refine l_step (y_assignV (et g0 rfl)) ?_
                  refine l_nil ?_
                  refine hK18 _ _ ?_
                  refine fg6 0 2 3 4 11 26 (gS rfl (gS rfl (gS rfl (gS rfl (gS rfl (gS rfl (gS rfl g0))))))) (gS rfl (gS rfl (gS rfl (gS rfl (gS rfl (gS rfl g0)))))) (gS rfl (gS rfl (gS rfl (gS rfl (gS rfl g0))))) (gS rfl (gS rfl (gS rfl (gS rfl g0)))) (gS rfl (gS rfl (gS rfl g0))) g0 (fun g => ?_)
                  refine c_false (et g0 rfl) (by (exact decide_eq_false (by omega))) ?_
                  refine c_seq (fun K20 hK20 => ?_)
                  exact (by
                    refine c_region ?_
                    refine l_step (y_eql (et (gS rfl g0) rfl) rfl) ?_
                    refine l_step (y_assignV (et g0 rfl)) ?_
                    refine l_nil ?_
                    refine hK20 _ _ ?_
                    refine fg6 0 2 3 4 11 33 (gS rfl (gS rfl (gS rfl (gS rfl (gS rfl (gS rfl (gS rfl g0))))))) (gS rfl (gS rfl (gS rfl (gS rfl (gS rfl (gS rfl g0)))))) (gS rfl (gS rfl (gS rfl (gS rfl (gS rfl g0))))) (gS rfl (gS rfl (gS rfl (gS rfl g0)))) (gS rfl (gS rfl (gS rfl g0))) g0 (fun g => ?_)
                    refine c_false (et g0 rfl) (by (exact decide_eq_false (by omega))) ?_
                    refine c_seq (fun K22 hK22 => ?_)
                    exact (by
                      refine c_region ?_
                      refine l_step (y_eql (et (gS rfl g0) rfl) rfl) ?_
                      refine l_step (y_assignV (et g0 rfl)) ?_
                      refine l_nil ?_
                      refine hK22 _ _ ?_
                      refine fg6 0 2 3 4 11 39 (gS rfl (gS rfl (gS rfl (gS rfl (gS rfl (gS rfl (gS rfl g0))))))) (gS rfl (gS rfl (gS rfl (gS rfl (gS rfl (gS rfl g0)))))) (gS rfl (gS rfl (gS rfl (gS rfl (gS rfl g0))))) (gS rfl (gS rfl (gS rfl (gS rfl g0)))) (gS rfl (gS rfl (gS rfl g0))) g0 (fun g => ?_)
                      refine c_false (et g0 rfl) (by (exact decide_eq_false (by omega))) ?_
                      refine c_seq (fun K24 hK24 => ?_)
                      exact (by
                        refine c_region ?_
                        refine l_step (y_eql (et (gS rfl g0) rfl) rfl) ?_
                        refine l_step (y_assignV (et g0 rfl)) ?_
                        refine l_nil ?_
                        refine hK24 _ _ ?_
                        refine fg6 0 2 3 4 11 50 (gS rfl (gS rfl (gS rfl (gS rfl (gS rfl (gS rfl (gS rfl g0))))))) (gS rfl (gS rfl (gS rfl (gS rfl (gS rfl (gS rfl g0)))))) (gS rfl (gS rfl (gS rfl (gS rfl (gS rfl g0))))) (gS rfl (gS rfl (gS rfl (gS rfl g0)))) (gS rfl (gS rfl (gS rfl g0))) g0 (fun g => ?_)
                        refine c_false (et g0 rfl) (by (exact decide_eq_false (by omega))) ?_
                        refine c_seq (fun K26 hK26 => ?_)
                        exact (by
                          refine c_region ?_
                          refine l_step (y_eql (et (gS rfl g0) rfl) rfl) ?_
                          refine l_step (y_assignV (et g0 rfl)) ?_
                          refine l_nil ?_
                          refine hK26 _ _ ?_
                          refine fg6 0 2 3 4 11 59 (gS rfl (gS rfl (gS rfl (gS rfl (gS rfl (gS rfl (gS rfl g0))))))) (gS rfl (gS rfl (gS rfl (gS rfl (gS rfl (gS rfl g0)))))) (gS rfl (gS rfl (gS rfl (gS rfl (gS rfl g0))))) (gS rfl (gS rfl (gS rfl (gS rfl g0)))) (gS rfl (gS rfl (gS rfl g0))) g0 (fun g => ?_)
                          refine c_false (et g0 rfl) (by (exact decide_eq_false (by omega))) ?_
                          refine c_seq (fun K28 hK28 => ?_)
                          exact (by
                            refine c_region ?_
                            refine l_step (y_eql (et (gS rfl g0) rfl) rfl) ?_
                            refine l_step (y_assignV (et g0 rfl)) ?_
                            refine l_nil ?_
                            refine hK28 _ _ ?_
                            refine fg6 0 2 3 4 11 68 (gS rfl (gS rfl (gS rfl (gS rfl (gS rfl (gS rfl (gS rfl g0))))))) (gS rfl (gS rfl (gS rfl (gS rfl (gS rfl (gS rfl g0)))))) (gS rfl (gS rfl (gS rfl (gS rfl (gS rfl g0))))) (gS rfl (gS rfl (gS rfl (gS rfl g0)))) (gS rfl (gS rfl (gS rfl g0))) g0 (fun g => ?_)
                            refine c_false (et g0 rfl) (by (exact decide_eq_false (by omega))) ?_
                            refine c_seq (fun K30 hK30 => ?_)
                            exact (by
                              refine c_region ?_
                              refine l_step (y_eql (et (gS rfl g0) rfl) rfl) ?_
                              refine l_step (y_assignV (et g0 rfl)) ?_
                              refine l_nil ?_
                              refine hK30 _ _ ?_
                              refine fg6 0 2 3 4 11 74 (gS rfl (gS rfl (gS rfl (gS rfl (gS rfl (gS rfl (gS rfl g0))))))) (gS rfl (gS rfl (gS rfl (gS rfl (gS rfl (gS rfl g0)))))) (gS rfl (gS rfl (gS rfl (gS rfl (gS rfl g0))))) (gS rfl (gS rfl (gS rfl (gS rfl g0)))) (gS rfl (gS rfl (gS rfl g0))) g0 (fun g => ?_)
                              refine c_false (et g0 rfl) (by (exact decide_eq_false (by omega))) ?_
                              refine c_seq (fun K32 hK32 => ?_)
                              exact (by
                                refine c_region ?_
                                refine l_step (y_eql (et (gS rfl g0) rfl) rfl) ?_
                                refine l_step (y_assignV (et g0 rfl)) ?_
                                refine l_nil ?_
                                refine hK32 _ _ ?_
                                refine fg6 0 2 3 4 11 83 (gS rfl (gS rfl (gS rfl (gS rfl (gS rfl (gS rfl (gS rfl g0))))))) (gS rfl (gS rfl (gS rfl (gS rfl (gS rfl (gS rfl g0)))))) (gS rfl (gS rfl (gS rfl (gS rfl (gS rfl g0))))) (gS rfl (gS rfl (gS rfl (gS rfl g0)))) (gS rfl (gS rfl (gS rfl g0))) g0 (fun g => ?_)
                                refine c_true (et g0 rfl) (by (exact decide_eq_true (by omega))) ?_
                                exact (by
                                  refine c_draw Up 9 [(0, true), (1, true), (2, true), (3, true), (4, true), (5, true), (6, true), (7, true), (8, false), (9, false)] (by kernel_rfl) (fun w34 hu => ⟨Up.refl _, ?_⟩)
                                  replace k7 := k7.up hu
                                  replace hX := hX.up hu
                                  replace U := U.tr hu
                                  have SU := Up.refl w34
                                  refine p_step (by exact rfl) (y_moveV (et (gS rfl (gS rfl (gS rfl (gS rfl (gS rfl g0))))) rfl)) ?_
                                  refine p_step (by exact rfl) (y_nil (et g0 rfl)) ?_
                                  refine p_step (by exact rfl) (y_fld fld_75_0 (et g0 rfl)) ?_
                                  refine p_step (by exact rfl) (y_load1 one_59 (et g0 rfl) (atS (hX.ex.vl.c1 hX.ex.lx.pS rfl))) ?_
                                  refine p_step (by exact rfl) (y_moveV (et (gS rfl (gS rfl (gS rfl (gS rfl (gS rfl (gS rfl (gS rfl (gS rfl g0)))))))) rfl)) ?_
                                  refine p_step (by exact rfl) (y_nil (et g0 rfl)) ?_
                                  refine p_step (by exact rfl) (y_fld fld_71_9 (et g0 rfl)) ?_
                                  refine p_step (by exact rfl) (y_loadR agg_25 sz_25 (et g0 rfl) (by rw [length_bL, length_be]) (atSR (hX.ex.vl.kC.rowO hR.r2 (by omega)))) ?_
                                  refine p_eff (by exact rfl) (e_callV cal_99 (aC (et (gS rfl (gS rfl (gS rfl (gS rfl g0)))) rfl) (aC (et g0 rfl) aN)) (hX.ex.balC f.self hB.self)) (fun v35 w35 h35 => ?_)
                                  obtain ⟨rfl, u35⟩ := h35
                                  replace k7 := k7.up u35
                                  replace hX := hX.up u35
                                  replace U := U.tr u35
                                  refine ⟨.inr (SU.tr u35), ?_⟩
                                  replace SU := SU.tr u35
                                  refine p_effN (by exact rfl) (e_store sz_65 (et (gS rfl (gS rfl (gS rfl (gS rfl (gS rfl (gS rfl (gS rfl (gS rfl (gS rfl (gS rfl (gS rfl (gS rfl g0)))))))))))) rfl) (cellsV (et g0 rfl) rfl) rfl (by exact one_uL _) k7 (by (first | (rw [hz7]; exact Nat.le_refl _) | (rw [List.size_toArray, wL_len]; exact Nat.le_refl _)))) (fun v36 w36 h36 => ?_)
                                  obtain ⟨rfl, x36⟩ := h36
                                  replace hX := hX.ch x36.ch (by first | omega | (intro b hb; first | (subst hb; first | exact ⟨by omega, fun hh => by have := hfz.lt hh; omega, by omega⟩ | exact ⟨by omega, by assumption, by omega⟩) | (rcases hb with hb | hb <;> (subst hb; first | exact ⟨by omega, fun hh => by have := hfz.lt hh; omega, by omega⟩ | exact ⟨by omega, by assumption, by omega⟩))))
                                  replace k7 := x36.blk.full (by first | (rw [hz7]; rfl) | (rw [List.size_toArray, wL_len, wL_len]))
                                  replace U := U.st x36 (.inr f7)
                                  refine ⟨.inl rfl, ?_⟩
                                  refine p_nil ?_
                                  refine hQ13 _ _ _ (in_normal ?_)
                                  refine hK10 _ _ ?_
                                  refine fg4 0 2 3 4 (gS rfl (gS rfl (gS rfl (gS rfl (gS rfl (gS rfl (gS rfl (gS rfl (gS rfl (gS rfl (gS rfl (gS rfl (gS rfl (gS rfl g0)))))))))))))) (gS rfl (gS rfl (gS rfl (gS rfl (gS rfl (gS rfl (gS rfl (gS rfl (gS rfl (gS rfl (gS rfl (gS rfl (gS rfl g0))))))))))))) (gS rfl (gS rfl (gS rfl (gS rfl (gS rfl (gS rfl (gS rfl (gS rfl (gS rfl (gS rfl (gS rfl (gS rfl g0)))))))))))) (gS rfl (gS rfl (gS rfl (gS rfl (gS rfl (gS rfl (gS rfl (gS rfl (gS rfl (gS rfl (gS rfl g0))))))))))) (fun g => ?_)
                                  refine c_region ?_
                                  exact (by
                                    refine l_step (y_moveV (et (gS rfl (gS rfl (gS rfl g0))) rfl)) ?_
                                    refine l_step (y_moveV (et (gS rfl (gS rfl (gS rfl g0))) rfl)) ?_
                                    refine l_step (y_moveV (et (gS rfl (gS rfl g0)) rfl)) ?_
                                    refine l_step (y_loadB agg_65 sz_65 (et (gS rfl (gS rfl (gS rfl (gS rfl g0)))) rfl) rfl (at1B k7)) ?_
                                    refine l_eff (e_callV cal_259 (aC (et (gS rfl (gS rfl (gS rfl g0))) rfl) (aC (et (gS rfl (gS rfl g0)) rfl) (aC (et (gS rfl g0) rfl) (aC rfl (aC (et g0 rfl) (aC (v := .int .u16 ((1 : Nat) : Int)) rfl aN)))))) (m_settle1 hX.ex hs hp rfl 0 _ 1 (by omega) hx8 (by omega) (by omega))) (fun v37 w37 h37 => ?_)
                                    obtain ⟨rfl, cs37, y37⟩ := h37
                                    replace k7 := k7.ch y37.et.go.ch (by intro hm; (have e0 := hm); omega)
                                    replace hX := hX.trans y37
                                    replace U := U.cc y37.et.go.ch (by intro b hb; exact .inl trivial)
                                    refine l_nil ?_
                                    refine end0 rfl ?_
                                    exact ⟨rfl, _, hX⟩)))))))))))))))))
theorem m_opSur88 {w : World} {H : Store} {col : Nat → Nat} {bc : Nat} {cs : Array Value} {V : EV} {s : YSt} {sn : List Nat} {sv : List AW} {ms : List (List Nat)} {c : Nat} {low : List YF} {f : YF} (hE : EX w H col bc cs V s sn sv ms c) (hs : s.frames = low ++ [f]) (hp : s.phase = 1) {lo : List (List Nat)} {m : List Nat} (hms : ms = lo ++ [m]) (hq : opcN f = 88) (hpc9 : f.pc < 512) (hlt9 : f.stack.length < 64) (hor9 : s.origin < A160) (hpr9 : s.price < W256) (hrl9 : s.ret.length ≤ 717280) :
    Ret 194 [.pointer (some ⟨bc, 0, none⟩)] w (fun v w' => v = .tuple #[] ∧ ∃ cs', XT w H col w' H col bc cs' V { s with frames := low ++ [ansN f 0 (f.pc)] } sn sv ms c) := by
  obtain ⟨n9, hn9, hR⟩ := hE.topF hs
  have hB := hE.fbT hs
  have h6 := hE.six hs
  have htop := hE.cTop hs
  have hphs := hE.cPh hp
  have hbp := hB.pc
  have hbs := hB.stk
  have hbg := hB.gas
  have hbc9 := hB.code
  have hnw := hE.vl.new
  have hfz := hE.vl.fz
  have hcC := hE.vl.colC
  have hbc0 := hE.vl.kC.lt
  have hX := XT.refl hE
  have hmx := hE.memMx hms
  obtain ⟨ca9, cc9, ia9, ic9, hr5, hcode, hinp⟩ := hR.r5
  obtain ⟨ra9, rc9, hret9, hrb9⟩ := hE.lx.ret
  have hbi9 := hB.input
  have hx8 : f.pc < W256 := lt_W (by omega)
  refine enter (n := 122) Hvaa.func194 rfl rfl (Nat.le_of_ble_eq_true rfl) ?_
  have U : Ch (fun _ => True) w w := Ch.refl _ w
  refine c_seq (fun K1 hK1 => ?_)
  exact (by
    refine c_region ?_
    refine l_step (y_moveV (et g0 rfl)) ?_
    refine l_eff (e_callV cal_183 (aC (et g0 rfl) aN) (m_running hX.ex hs hp)) (fun v2 w2 h2 => ?_)
    obtain ⟨rfl, u2⟩ := h2
    replace hX := hX.up u2
    replace U := U.tr u2
    refine l_step (y_assignV (et g0 rfl)) ?_
    refine l_nil ?_
    refine hK1 _ _ ?_
    refine fg2 0 2 (gS rfl (gS rfl (gS rfl g0))) g0 (fun g => ?_)
    refine c_seq (fun K3 hK3 => ?_)
    refine c_seq (fun K4 hK4 => ?_)
    exact (by
      refine c_region ?_
      refine l_step (y_moveV (et g0 rfl)) ?_
      refine l_step (y_eqlNil Hvaa.underlying276 (et g0 rfl) rfl) ?_
      refine l_nil ?_
      refine hK4 _ _ ?_
      refine fg3 0 2 8 (gS rfl (gS rfl (gS rfl g0))) (gS rfl (gS rfl g0)) g0 (fun g => ?_)
      refine c_false (et g0 rfl) rfl ?_
      refine c_skip ?_
      refine hK3 _ _ ?_
      refine fg2 0 2 (gS rfl (gS rfl g0)) (gS rfl g0) (fun g => ?_)
      refine c_seq (fun K6 hK6 => ?_)
      exact (by
        refine c_region ?_
        refine l_step (y_bld bN bld65_z) ?_
        refine l_eff (e_alloc zr_65) (fun v7 w7 h7 => ?_)
        obtain ⟨b7, rfl, n7⟩ := h7
        have f7 : w.heap.size ≤ b7 := Nat.le_trans U.size n7.fresh
        replace hX := hX.up n7.up
        replace U := U.tr n7.up
        have k7 := n7.blk
        obtain ⟨zs7, hz7, k7⟩ : ∃ cs : Array Value, cs.size = 4 ∧ Blk w7 b7 cs := ⟨_, rfl, k7⟩
        have nc7 : col b7 = 0 := hnw _ f7
        refine l_effN (e_store sz_65 (et g0 rfl) (cellsV (et (gS rfl g0) rfl) rfl) rfl (by exact one_uL _) k7 (by (first | (rw [hz7]; exact Nat.le_refl _) | (rw [List.size_toArray, wL_len]; exact Nat.le_refl _)))) (fun v8 w8 h8 => ?_)
        obtain ⟨rfl, x8⟩ := h8
        replace hX := hX.ch x8.ch (by first | omega | (intro b hb; first | (subst hb; first | exact ⟨by omega, fun hh => by have := hfz.lt hh; omega, by omega⟩ | exact ⟨by omega, by assumption, by omega⟩) | (rcases hb with hb | hb <;> (subst hb; first | exact ⟨by omega, fun hh => by have := hfz.lt hh; omega, by omega⟩ | exact ⟨by omega, by assumption, by omega⟩))))
        replace k7 := x8.blk.full (by first | (rw [hz7]; rfl) | (rw [List.size_toArray, wL_len, wL_len]))
        replace U := U.st x8 (.inr f7)
        refine l_nil ?_
        refine hK6 _ _ ?_
        refine fg3 0 2 3 (gS rfl (gS rfl (gS rfl g0))) (gS rfl (gS rfl g0)) g0 (fun g => ?_)
        refine c_seq (fun K9 hK9 => ?_)
        exact (by
          refine c_region ?_
          refine l_step y_assignC ?_
          refine l_nil ?_
          refine hK9 _ _ ?_
          refine c_seq (fun K10 hK10 => ?_)
          refine c_seq (fun K11 hK11 => ?_)
          exact (by
            refine c_region ?_
            refine l_step (y_moveV (et (gS rfl (gS rfl (gS rfl g0))) rfl)) ?_
            refine l_eff (e_callV cal_108 (aC (et g0 rfl) aN) (m_opcode hX.ex hs hp)) (fun v12 w12 h12 => ?_)
            obtain ⟨rfl, u12⟩ := h12
            replace k7 := k7.up u12
            replace hX := hX.up u12
            replace U := U.tr u12
            refine l_nil ?_
            refine hK11 _ _ ?_
            refine fg5 0 2 3 4 11 (gS rfl (gS rfl (gS rfl (gS rfl (gS rfl g0))))) (gS rfl (gS rfl (gS rfl (gS rfl g0)))) (gS rfl (gS rfl (gS rfl g0))) (gS rfl (gS rfl g0)) g0 (fun g => ?_)
            refine c_block (fun Q13 hQ13 => ?_)
            refine c_seq (fun K14 hK14 => ?_)
            exact (by
              refine c_region ?_
              refine l_step (y_eql (et g0 rfl) rfl) ?_
              refine l_step (y_assignV (et g0 rfl)) ?_
              refine l_nil ?_
              refine hK14 _ _ ?_
              refine fg6 0 2 3 4 11 12 (gS rfl (gS rfl (gS rfl (gS rfl (gS rfl (gS rfl g0)))))) (gS rfl (gS rfl (gS rfl (gS rfl (gS rfl g0))))) (gS rfl (gS rfl (gS rfl (gS rfl g0)))) (gS rfl (gS rfl (gS rfl g0))) (gS rfl (gS rfl g0)) g0 (fun g => ?_)
              refine c_false (et g0 rfl) (by (exact decide_eq_false (by omega))) ?_
              refine c_seq (fun K16 hK16 => ?_)
              exact (by
                refine c_region ?_
                refine l_step (y_eql (et (gS rfl g0) rfl) rfl) ?_
                refine l_step (y_assignV (et g0 rfl)) ?_
                refine l_nil ?_
                refine hK16 _ _ ?_
                refine fg6 0 2 3 4 11 19 (gS rfl (gS rfl (gS rfl (gS rfl (gS rfl (gS rfl (gS rfl g0))))))) (gS rfl (gS rfl (gS rfl (gS rfl (gS rfl (gS rfl g0)))))) (gS rfl (gS rfl (gS rfl (gS rfl (gS rfl g0))))) (gS rfl (gS rfl (gS rfl (gS rfl g0)))) (gS rfl (gS rfl (gS rfl g0))) g0 (fun g => ?_)
                refine c_false (et g0 rfl) (by (exact decide_eq_false (by omega))) ?_
                refine c_seq (fun K18 hK18 => ?_)
                exact (by
                  refine c_region ?_
                  refine l_step (y_eql (et (gS rfl g0) rfl) rfl) ?_
                  refine l_step (y_assignV (et g0 rfl)) ?_
                  refine l_nil ?_
                  refine hK18 _ _ ?_
                  refine fg6 0 2 3 4 11 26 (gS rfl (gS rfl (gS rfl (gS rfl (gS rfl (gS rfl (gS rfl g0))))))) (gS rfl (gS rfl (gS rfl (gS rfl (gS rfl (gS rfl g0)))))) (gS rfl (gS rfl (gS rfl (gS rfl (gS rfl g0))))) (gS rfl (gS rfl (gS rfl (gS rfl g0)))) (gS rfl (gS rfl (gS rfl g0))) g0 (fun g => ?_)
                  refine c_false (et g0 rfl) (by (exact decide_eq_false (by omega))) ?_
                  refine c_seq (fun K20 hK20 => ?_)
                  exact (by
                    refine c_region ?_
                    refine l_step (y_eql (et (gS rfl g0) rfl) rfl) ?_
                    refine l_step (y_assignV (et g0 rfl)) ?_
                    refine l_nil ?_
                    refine hK20 _ _ ?_
                    refine fg6 0 2 3 4 11 33 (gS rfl (gS rfl (gS rfl (gS rfl (gS rfl (gS rfl (gS rfl g0))))))) (gS rfl (gS rfl (gS rfl (gS rfl (gS rfl (gS rfl g0)))))) (gS rfl (gS rfl (gS rfl (gS rfl (gS rfl g0))))) (gS rfl (gS rfl (gS rfl (gS rfl g0)))) (gS rfl (gS rfl (gS rfl g0))) g0 (fun g => ?_)
                    refine c_false (et g0 rfl) (by (exact decide_eq_false (by omega))) ?_
                    refine c_seq (fun K22 hK22 => ?_)
                    exact (by
                      refine c_region ?_
                      refine l_step (y_eql (et (gS rfl g0) rfl) rfl) ?_
                      refine l_step (y_assignV (et g0 rfl)) ?_
                      refine l_nil ?_
                      refine hK22 _ _ ?_
                      refine fg6 0 2 3 4 11 39 (gS rfl (gS rfl (gS rfl (gS rfl (gS rfl (gS rfl (gS rfl g0))))))) (gS rfl (gS rfl (gS rfl (gS rfl (gS rfl (gS rfl g0)))))) (gS rfl (gS rfl (gS rfl (gS rfl (gS rfl g0))))) (gS rfl (gS rfl (gS rfl (gS rfl g0)))) (gS rfl (gS rfl (gS rfl g0))) g0 (fun g => ?_)
                      refine c_false (et g0 rfl) (by (exact decide_eq_false (by omega))) ?_
                      refine c_seq (fun K24 hK24 => ?_)
                      exact (by
                        refine c_region ?_
                        refine l_step (y_eql (et (gS rfl g0) rfl) rfl) ?_
                        refine l_step (y_assignV (et g0 rfl)) ?_
                        refine l_nil ?_
                        refine hK24 _ _ ?_
                        refine fg6 0 2 3 4 11 50 (gS rfl (gS rfl (gS rfl (gS rfl (gS rfl (gS rfl (gS rfl g0))))))) (gS rfl (gS rfl (gS rfl (gS rfl (gS rfl (gS rfl g0)))))) (gS rfl (gS rfl (gS rfl (gS rfl (gS rfl g0))))) (gS rfl (gS rfl (gS rfl (gS rfl g0)))) (gS rfl (gS rfl (gS rfl g0))) g0 (fun g => ?_)
                        refine c_false (et g0 rfl) (by (exact decide_eq_false (by omega))) ?_
                        refine c_seq (fun K26 hK26 => ?_)
                        exact (by
                          refine c_region ?_
                          refine l_step (y_eql (et (gS rfl g0) rfl) rfl) ?_
                          refine l_step (y_assignV (et g0 rfl)) ?_
                          refine l_nil ?_
                          refine hK26 _ _ ?_
                          refine fg6 0 2 3 4 11 59 (gS rfl (gS rfl (gS rfl (gS rfl (gS rfl (gS rfl (gS rfl g0))))))) (gS rfl (gS rfl (gS rfl (gS rfl (gS rfl (gS rfl g0)))))) (gS rfl (gS rfl (gS rfl (gS rfl (gS rfl g0))))) (gS rfl (gS rfl (gS rfl (gS rfl g0)))) (gS rfl (gS rfl (gS rfl g0))) g0 (fun g => ?_)
                          refine c_false (et g0 rfl) (by (exact decide_eq_false (by omega))) ?_
                          refine c_seq (fun K28 hK28 => ?_)
                          exact (by
                            refine c_region ?_
                            refine l_step (y_eql (et (gS rfl g0) rfl) rfl) ?_
                            refine l_step (y_assignV (et g0 rfl)) ?_
                            refine l_nil ?_
                            refine hK28 _ _ ?_
                            refine fg6 0 2 3 4 11 68 (gS rfl (gS rfl (gS rfl (gS rfl (gS rfl (gS rfl (gS rfl g0))))))) (gS rfl (gS rfl (gS rfl (gS rfl (gS rfl (gS rfl g0)))))) (gS rfl (gS rfl (gS rfl (gS rfl (gS rfl g0))))) (gS rfl (gS rfl (gS rfl (gS rfl g0)))) (gS rfl (gS rfl (gS rfl g0))) g0 (fun g => ?_)
                            refine c_false (et g0 rfl) (by (exact decide_eq_false (by omega))) ?_
                            refine c_seq (fun K30 hK30 => ?_)
                            exact (by
                              refine c_region ?_
                              refine l_step (y_eql (et (gS rfl g0) rfl) rfl) ?_
                              refine l_step (y_assignV (et g0 rfl)) ?_
                              refine l_nil ?_
                              refine hK30 _ _ ?_
                              refine fg6 0 2 3 4 11 74 (gS rfl (gS rfl (gS rfl (gS rfl (gS rfl (gS rfl (gS rfl g0))))))) (gS rfl (gS rfl (gS rfl (gS rfl (gS rfl (gS rfl g0)))))) (gS rfl (gS rfl (gS rfl (gS rfl (gS rfl g0))))) (gS rfl (gS rfl (gS rfl (gS rfl g0)))) (gS rfl (gS rfl (gS rfl g0))) g0 (fun g => ?_)
                              refine c_false (et g0 rfl) (by (exact decide_eq_false (by omega))) ?_
                              refine c_seq (fun K32 hK32 => ?_)
                              exact (by
                                refine c_region ?_
                                refine l_step (y_eql (et (gS rfl g0) rfl) rfl) ?_
                                refine l_step (y_assignV (et g0 rfl)) ?_
                                refine l_nil ?_
                                refine hK32 _ _ ?_
                                refine fg6 0 2 3 4 11 83 (gS rfl (gS rfl (gS rfl (gS rfl (gS rfl (gS rfl (gS rfl g0))))))) (gS rfl (gS rfl (gS rfl (gS rfl (gS rfl (gS rfl g0)))))) (gS rfl (gS rfl (gS rfl (gS rfl (gS rfl g0))))) (gS rfl (gS rfl (gS rfl (gS rfl g0)))) (gS rfl (gS rfl (gS rfl g0))) g0 (fun g => ?_)
                                refine c_false (et g0 rfl) (by (exact decide_eq_false (by omega))) ?_
                                refine c_seq (fun K34 hK34 => ?_)
                                exact (by
                                  refine c_region ?_
                                  refine l_step (y_eql (et (gS rfl g0) rfl) rfl) ?_
                                  refine l_step (y_assignV (et g0 rfl)) ?_
                                  refine l_nil ?_
                                  refine hK34 _ _ ?_
                                  refine fg6 0 2 3 4 11 94 (gS rfl (gS rfl (gS rfl (gS rfl (gS rfl (gS rfl (gS rfl g0))))))) (gS rfl (gS rfl (gS rfl (gS rfl (gS rfl (gS rfl g0)))))) (gS rfl (gS rfl (gS rfl (gS rfl (gS rfl g0))))) (gS rfl (gS rfl (gS rfl (gS rfl g0)))) (gS rfl (gS rfl (gS rfl g0))) g0 (fun g => ?_)
                                  refine c_true (et g0 rfl) (by (exact decide_eq_true (by omega))) ?_
                                  exact (by
                                    refine c_region ?_
                                    refine l_step (y_moveV (et (gS rfl (gS rfl (gS rfl (gS rfl g0)))) rfl)) ?_
                                    refine l_step (y_nil (et g0 rfl)) ?_
                                    refine l_step (y_fld fld_71_4 (et g0 rfl)) ?_
                                    refine l_step (y_load1 one_67 (et g0 rfl) (at1 (hX.ex.vl.c1 (hR.r1 4 _ rfl) (by omega)))) ?_
                                    refine l_step (y_conv Hvaa.underlying67 Hvaa.underlying26 (et g0 rfl) (wrapU_id uk64 ?_)) ?_
                                    omega
                                    refine l_step (y_idxAC 0 0 Hvaa.underlying65 sz_26 (et (gS rfl (gS rfl (gS rfl (gS rfl (gS rfl (gS rfl (gS rfl (gS rfl g0)))))))) rfl) rfl rfl rfl) ?_
                                    refine l_effN (e_store sz_26 (et g0 rfl) (cellsV (et (gS rfl g0) rfl) rfl) rfl (by first | exact one_bL _ | exact one_uL _ | (intro v hv; simp at hv; subst hv; rfl)) k7 (by (rw [List.size_toArray, wL_len]; exact Nat.le_of_ble_eq_true rfl))) (fun v36 w36 h36 => ?_)
                                    obtain ⟨rfl, x36⟩ := h36
                                    replace hX := hX.ch x36.ch (by first | omega | (intro b hb; first | (subst hb; first | exact ⟨by omega, fun hh => by have := hfz.lt hh; omega, by omega⟩ | exact ⟨by omega, by assumption, by omega⟩) | (rcases hb with hb | hb <;> (subst hb; first | exact ⟨by omega, fun hh => by have := hfz.lt hh; omega, by omega⟩ | exact ⟨by omega, by assumption, by omega⟩))))
                                    replace k7 := x36.blk
                                    replace U := U.st x36 (.inr f7)
                                    rw [w0_put (by omega) rfl] at k7
                                    refine l_nil ?_
                                    refine hQ13 _ _ _ (in_normal ?_)
                                    refine hK10 _ _ ?_
                                    refine fg4 0 2 3 4 (gS rfl (gS rfl (gS rfl (gS rfl (gS rfl (gS rfl (gS rfl (gS rfl (gS rfl (gS rfl (gS rfl g0))))))))))) (gS rfl (gS rfl (gS rfl (gS rfl (gS rfl (gS rfl (gS rfl (gS rfl (gS rfl (gS rfl g0)))))))))) (gS rfl (gS rfl (gS rfl (gS rfl (gS rfl (gS rfl (gS rfl (gS rfl (gS rfl g0))))))))) (gS rfl (gS rfl (gS rfl (gS rfl (gS rfl (gS rfl (gS rfl (gS rfl g0)))))))) (fun g => ?_)
                                    refine c_region ?_
                                    refine l_step (y_moveV (et (gS rfl (gS rfl (gS rfl g0))) rfl)) ?_
                                    refine l_step (y_moveV (et (gS rfl (gS rfl (gS rfl g0))) rfl)) ?_
                                    refine l_step (y_moveV (et (gS rfl (gS rfl g0)) rfl)) ?_
                                    refine l_step (y_loadB agg_65 sz_65 (et (gS rfl (gS rfl (gS rfl (gS rfl g0)))) rfl) rfl (at1B k7)) ?_
                                    refine l_eff (e_callV cal_259 (aC (et (gS rfl (gS rfl (gS rfl g0))) rfl) (aC (et (gS rfl (gS rfl g0)) rfl) (aC (et (gS rfl g0) rfl) (aC rfl (aC (et g0 rfl) (aC (v := .int .u16 ((1 : Nat) : Int)) rfl aN)))))) (m_settle1 hX.ex hs hp rfl 0 _ 1 (by omega) hx8 (by omega) (by omega))) (fun v37 w37 h37 => ?_)
                                    obtain ⟨rfl, cs37, y37⟩ := h37
                                    replace k7 := k7.ch y37.et.go.ch (by intro hm; (have e0 := hm); omega)
                                    replace hX := hX.trans y37
                                    replace U := U.cc y37.et.go.ch (by intro b hb; exact .inl trivial)
                                    refine l_nil ?_
                                    refine end0 rfl ?_
                                    exact ⟨rfl, _, hX⟩)))))))))))))))))
theorem m_opSur89 {w : World} {H : Store} {col : Nat → Nat} {bc : Nat} {cs : Array Value} {V : EV} {s : YSt} {sn : List Nat} {sv : List AW} {ms : List (List Nat)} {c : Nat} {low : List YF} {f : YF} (hE : EX w H col bc cs V s sn sv ms c) (hs : s.frames = low ++ [f]) (hp : s.phase = 1) {lo : List (List Nat)} {m : List Nat} (hms : ms = lo ++ [m]) (hq : opcN f = 89) (hpc9 : f.pc < 512) (hlt9 : f.stack.length < 64) (hor9 : s.origin < A160) (hpr9 : s.price < W256) (hrl9 : s.ret.length ≤ 717280) :
    Ret 194 [.pointer (some ⟨bc, 0, none⟩)] w (fun v w' => v = .tuple #[] ∧ ∃ cs', XT w H col w' H col bc cs' V { s with frames := low ++ [ansN f 0 (m.length)] } sn sv ms c) := by
  obtain ⟨n9, hn9, hR⟩ := hE.topF hs
  have hB := hE.fbT hs
  have h6 := hE.six hs
  have htop := hE.cTop hs
  have hphs := hE.cPh hp
  have hbp := hB.pc
  have hbs := hB.stk
  have hbg := hB.gas
  have hbc9 := hB.code
  have hnw := hE.vl.new
  have hfz := hE.vl.fz
  have hcC := hE.vl.colC
  have hbc0 := hE.vl.kC.lt
  have hX := XT.refl hE
  have hmx := hE.memMx hms
  obtain ⟨ca9, cc9, ia9, ic9, hr5, hcode, hinp⟩ := hR.r5
  obtain ⟨ra9, rc9, hret9, hrb9⟩ := hE.lx.ret
  have hbi9 := hB.input
  have hx8 : m.length < W256 := lt_W (by omega)
  refine enter (n := 122) Hvaa.func194 rfl rfl (Nat.le_of_ble_eq_true rfl) ?_
  have U : Ch (fun _ => True) w w := Ch.refl _ w
  refine c_seq (fun K1 hK1 => ?_)
  exact (by
    refine c_region ?_
    refine l_step (y_moveV (et g0 rfl)) ?_
    refine l_eff (e_callV cal_183 (aC (et g0 rfl) aN) (m_running hX.ex hs hp)) (fun v2 w2 h2 => ?_)
    obtain ⟨rfl, u2⟩ := h2
    replace hX := hX.up u2
    replace U := U.tr u2
    refine l_step (y_assignV (et g0 rfl)) ?_
    refine l_nil ?_
    refine hK1 _ _ ?_
    refine fg2 0 2 (gS rfl (gS rfl (gS rfl g0))) g0 (fun g => ?_)
    refine c_seq (fun K3 hK3 => ?_)
    refine c_seq (fun K4 hK4 => ?_)
    exact (by
      refine c_region ?_
      refine l_step (y_moveV (et g0 rfl)) ?_
      refine l_step (y_eqlNil Hvaa.underlying276 (et g0 rfl) rfl) ?_
      refine l_nil ?_
      refine hK4 _ _ ?_
      refine fg3 0 2 8 (gS rfl (gS rfl (gS rfl g0))) (gS rfl (gS rfl g0)) g0 (fun g => ?_)
      refine c_false (et g0 rfl) rfl ?_
      refine c_skip ?_
      refine hK3 _ _ ?_
      refine fg2 0 2 (gS rfl (gS rfl g0)) (gS rfl g0) (fun g => ?_)
      refine c_seq (fun K6 hK6 => ?_)
      exact (by
        refine c_region ?_
        refine l_step (y_bld bN bld65_z) ?_
        refine l_eff (e_alloc zr_65) (fun v7 w7 h7 => ?_)
        obtain ⟨b7, rfl, n7⟩ := h7
        have f7 : w.heap.size ≤ b7 := Nat.le_trans U.size n7.fresh
        replace hX := hX.up n7.up
        replace U := U.tr n7.up
        have k7 := n7.blk
        obtain ⟨zs7, hz7, k7⟩ : ∃ cs : Array Value, cs.size = 4 ∧ Blk w7 b7 cs := ⟨_, rfl, k7⟩
        have nc7 : col b7 = 0 := hnw _ f7
        refine l_effN (e_store sz_65 (et g0 rfl) (cellsV (et (gS rfl g0) rfl) rfl) rfl (by exact one_uL _) k7 (by (first | (rw [hz7]; exact Nat.le_refl _) | (rw [List.size_toArray, wL_len]; exact Nat.le_refl _)))) (fun v8 w8 h8 => ?_)
        obtain ⟨rfl, x8⟩ := h8
        replace hX := hX.ch x8.ch (by first | omega | (intro b hb; first | (subst hb; first | exact ⟨by omega, fun hh => by have := hfz.lt hh; omega, by omega⟩ | exact ⟨by omega, by assumption, by omega⟩) | (rcases hb with hb | hb <;> (subst hb; first | exact ⟨by omega, fun hh => by have := hfz.lt hh; omega, by omega⟩ | exact ⟨by omega, by assumption, by omega⟩))))
        replace k7 := x8.blk.full (by first | (rw [hz7]; rfl) | (rw [List.size_toArray, wL_len, wL_len]))
        replace U := U.st x8 (.inr f7)
        refine l_nil ?_
        refine hK6 _ _ ?_
        refine fg3 0 2 3 (gS rfl (gS rfl (gS rfl g0))) (gS rfl (gS rfl g0)) g0 (fun g => ?_)
        refine c_seq (fun K9 hK9 => ?_)
        exact (by
          refine c_region ?_
          refine l_step y_assignC ?_
          refine l_nil ?_
          refine hK9 _ _ ?_
          refine c_seq (fun K10 hK10 => ?_)
          refine c_seq (fun K11 hK11 => ?_)
          exact (by
            refine c_region ?_
            refine l_step (y_moveV (et (gS rfl (gS rfl (gS rfl g0))) rfl)) ?_
            refine l_eff (e_callV cal_108 (aC (et g0 rfl) aN) (m_opcode hX.ex hs hp)) (fun v12 w12 h12 => ?_)
            obtain ⟨rfl, u12⟩ := h12
            replace k7 := k7.up u12
            replace hX := hX.up u12
            replace U := U.tr u12
            refine l_nil ?_
            refine hK11 _ _ ?_
            refine fg5 0 2 3 4 11 (gS rfl (gS rfl (gS rfl (gS rfl (gS rfl g0))))) (gS rfl (gS rfl (gS rfl (gS rfl g0)))) (gS rfl (gS rfl (gS rfl g0))) (gS rfl (gS rfl g0)) g0 (fun g => ?_)
            refine c_block (fun Q13 hQ13 => ?_)
            refine c_seq (fun K14 hK14 => ?_)
            exact (by
              refine c_region ?_
              refine l_step (y_eql (et g0 rfl) rfl) ?_
              refine l_step (y_assignV (et g0 rfl)) ?_
              refine l_nil ?_
              refine hK14 _ _ ?_
              refine fg6 0 2 3 4 11 12 (gS rfl (gS rfl (gS rfl (gS rfl (gS rfl (gS rfl g0)))))) (gS rfl (gS rfl (gS rfl (gS rfl (gS rfl g0))))) (gS rfl (gS rfl (gS rfl (gS rfl g0)))) (gS rfl (gS rfl (gS rfl g0))) (gS rfl (gS rfl g0)) g0 (fun g => ?_)
              refine c_false (et g0 rfl) (by (exact decide_eq_false (by omega))) ?_
              refine c_seq (fun K16 hK16 => ?_)
              exact (by
                refine c_region ?_
                refine l_step (y_eql (et (gS rfl g0) rfl) rfl) ?_
                refine l_step (y_assignV (et g0 rfl)) ?_
                refine l_nil ?_
                refine hK16 _ _ ?_
                refine fg6 0 2 3 4 11 19 (gS rfl (gS rfl (gS rfl (gS rfl (gS rfl (gS rfl (gS rfl g0))))))) (gS rfl (gS rfl (gS rfl (gS rfl (gS rfl (gS rfl g0)))))) (gS rfl (gS rfl (gS rfl (gS rfl (gS rfl g0))))) (gS rfl (gS rfl (gS rfl (gS rfl g0)))) (gS rfl (gS rfl (gS rfl g0))) g0 (fun g => ?_)
                refine c_false (et g0 rfl) (by (exact decide_eq_false (by omega))) ?_
                refine c_seq (fun K18 hK18 => ?_)
                exact (by
                  refine c_region ?_
                  refine l_step (y_eql (et (gS rfl g0) rfl) rfl) ?_
                  refine l_step (y_assignV (et g0 rfl)) ?_
                  refine l_nil ?_
                  refine hK18 _ _ ?_
                  refine fg6 0 2 3 4 11 26 (gS rfl (gS rfl (gS rfl (gS rfl (gS rfl (gS rfl (gS rfl g0))))))) (gS rfl (gS rfl (gS rfl (gS rfl (gS rfl (gS rfl g0)))))) (gS rfl (gS rfl (gS rfl (gS rfl (gS rfl g0))))) (gS rfl (gS rfl (gS rfl (gS rfl g0)))) (gS rfl (gS rfl (gS rfl g0))) g0 (fun g => ?_)
                  refine c_false (et g0 rfl) (by (exact decide_eq_false (by omega))) ?_
                  refine c_seq (fun K20 hK20 => ?_)
                  exact (by
                    refine c_region ?_
                    refine l_step (y_eql (et (gS rfl g0) rfl) rfl) ?_
                    refine l_step (y_assignV (et g0 rfl)) ?_
                    refine l_nil ?_
                    refine hK20 _ _ ?_
                    refine fg6 0 2 3 4 11 33 (gS rfl (gS rfl (gS rfl (gS rfl (gS rfl (gS rfl (gS rfl g0))))))) (gS rfl (gS rfl (gS rfl (gS rfl (gS rfl (gS rfl g0)))))) (gS rfl (gS rfl (gS rfl (gS rfl (gS rfl g0))))) (gS rfl (gS rfl (gS rfl (gS rfl g0)))) (gS rfl (gS rfl (gS rfl g0))) g0 (fun g => ?_)
                    refine c_false (et g0 rfl) (by (exact decide_eq_false (by omega))) ?_
                    refine c_seq (fun K22 hK22 => ?_)
                    exact (by
                      refine c_region ?_
                      refine l_step (y_eql (et (gS rfl g0) rfl) rfl) ?_
                      refine l_step (y_assignV (et g0 rfl)) ?_
                      refine l_nil ?_
                      refine hK22 _ _ ?_
                      refine fg6 0 2 3 4 11 39 (gS rfl (gS rfl (gS rfl (gS rfl (gS rfl (gS rfl (gS rfl g0))))))) (gS rfl (gS rfl (gS rfl (gS rfl (gS rfl (gS rfl g0)))))) (gS rfl (gS rfl (gS rfl (gS rfl (gS rfl g0))))) (gS rfl (gS rfl (gS rfl (gS rfl g0)))) (gS rfl (gS rfl (gS rfl g0))) g0 (fun g => ?_)
                      refine c_false (et g0 rfl) (by (exact decide_eq_false (by omega))) ?_
                      refine c_seq (fun K24 hK24 => ?_)
                      exact (by
                        refine c_region ?_
                        refine l_step (y_eql (et (gS rfl g0) rfl) rfl) ?_
                        refine l_step (y_assignV (et g0 rfl)) ?_
                        refine l_nil ?_
                        refine hK24 _ _ ?_
                        refine fg6 0 2 3 4 11 50 (gS rfl (gS rfl (gS rfl (gS rfl (gS rfl (gS rfl (gS rfl g0))))))) (gS rfl (gS rfl (gS rfl (gS rfl (gS rfl (gS rfl g0)))))) (gS rfl (gS rfl (gS rfl (gS rfl (gS rfl g0))))) (gS rfl (gS rfl (gS rfl (gS rfl g0)))) (gS rfl (gS rfl (gS rfl g0))) g0 (fun g => ?_)
                        refine c_false (et g0 rfl) (by (exact decide_eq_false (by omega))) ?_
                        refine c_seq (fun K26 hK26 => ?_)
                        exact (by
                          refine c_region ?_
                          refine l_step (y_eql (et (gS rfl g0) rfl) rfl) ?_
                          refine l_step (y_assignV (et g0 rfl)) ?_
                          refine l_nil ?_
                          refine hK26 _ _ ?_
                          refine fg6 0 2 3 4 11 59 (gS rfl (gS rfl (gS rfl (gS rfl (gS rfl (gS rfl (gS rfl g0))))))) (gS rfl (gS rfl (gS rfl (gS rfl (gS rfl (gS rfl g0)))))) (gS rfl (gS rfl (gS rfl (gS rfl (gS rfl g0))))) (gS rfl (gS rfl (gS rfl (gS rfl g0)))) (gS rfl (gS rfl (gS rfl g0))) g0 (fun g => ?_)
                          refine c_false (et g0 rfl) (by (exact decide_eq_false (by omega))) ?_
                          refine c_seq (fun K28 hK28 => ?_)
                          exact (by
                            refine c_region ?_
                            refine l_step (y_eql (et (gS rfl g0) rfl) rfl) ?_
                            refine l_step (y_assignV (et g0 rfl)) ?_
                            refine l_nil ?_
                            refine hK28 _ _ ?_
                            refine fg6 0 2 3 4 11 68 (gS rfl (gS rfl (gS rfl (gS rfl (gS rfl (gS rfl (gS rfl g0))))))) (gS rfl (gS rfl (gS rfl (gS rfl (gS rfl (gS rfl g0)))))) (gS rfl (gS rfl (gS rfl (gS rfl (gS rfl g0))))) (gS rfl (gS rfl (gS rfl (gS rfl g0)))) (gS rfl (gS rfl (gS rfl g0))) g0 (fun g => ?_)
                            refine c_false (et g0 rfl) (by (exact decide_eq_false (by omega))) ?_
                            refine c_seq (fun K30 hK30 => ?_)
                            exact (by
                              refine c_region ?_
                              refine l_step (y_eql (et (gS rfl g0) rfl) rfl) ?_
                              refine l_step (y_assignV (et g0 rfl)) ?_
                              refine l_nil ?_
                              refine hK30 _ _ ?_
                              refine fg6 0 2 3 4 11 74 (gS rfl (gS rfl (gS rfl (gS rfl (gS rfl (gS rfl (gS rfl g0))))))) (gS rfl (gS rfl (gS rfl (gS rfl (gS rfl (gS rfl g0)))))) (gS rfl (gS rfl (gS rfl (gS rfl (gS rfl g0))))) (gS rfl (gS rfl (gS rfl (gS rfl g0)))) (gS rfl (gS rfl (gS rfl g0))) g0 (fun g => ?_)
                              refine c_false (et g0 rfl) (by (exact decide_eq_false (by omega))) ?_
                              refine c_seq (fun K32 hK32 => ?_)
                              exact (by
                                refine c_region ?_
                                refine l_step (y_eql (et (gS rfl g0) rfl) rfl) ?_
                                refine l_step (y_assignV (et g0 rfl)) ?_
                                refine l_nil ?_
                                refine hK32 _ _ ?_
                                refine fg6 0 2 3 4 11 83 (gS rfl (gS rfl (gS rfl (gS rfl (gS rfl (gS rfl (gS rfl g0))))))) (gS rfl (gS rfl (gS rfl (gS rfl (gS rfl (gS rfl g0)))))) (gS rfl (gS rfl (gS rfl (gS rfl (gS rfl g0))))) (gS rfl (gS rfl (gS rfl (gS rfl g0)))) (gS rfl (gS rfl (gS rfl g0))) g0 (fun g => ?_)
                                refine c_false (et g0 rfl) (by (exact decide_eq_false (by omega))) ?_
                                refine c_seq (fun K34 hK34 => ?_)
                                exact (by
                                  refine c_region ?_
                                  refine l_step (y_eql (et (gS rfl g0) rfl) rfl) ?_
                                  refine l_step (y_assignV (et g0 rfl)) ?_
                                  refine l_nil ?_
                                  refine hK34 _ _ ?_
                                  refine fg6 0 2 3 4 11 94 (gS rfl (gS rfl (gS rfl (gS rfl (gS rfl (gS rfl (gS rfl g0))))))) (gS rfl (gS rfl (gS rfl (gS rfl (gS rfl (gS rfl g0)))))) (gS rfl (gS rfl (gS rfl (gS rfl (gS rfl g0))))) (gS rfl (gS rfl (gS rfl (gS rfl g0)))) (gS rfl (gS rfl (gS rfl g0))) g0 (fun g => ?_)
                                  refine c_false (et g0 rfl) (by (exact decide_eq_false (by omega))) ?_
                                  refine c_seq (fun K36 hK36 => ?_)
                                  exact (by
                                    refine c_region ?_
                                    refine l_step (y_eql (et (gS rfl g0) rfl) rfl) ?_
                                    refine l_step (y_assignV (et g0 rfl)) ?_
                                    refine l_nil ?_
                                    refine hK36 _ _ ?_
                                    refine fg6 0 2 3 4 11 102 (gS rfl (gS rfl (gS rfl (gS rfl (gS rfl (gS rfl (gS rfl g0))))))) (gS rfl (gS rfl (gS rfl (gS rfl (gS rfl (gS rfl g0)))))) (gS rfl (gS rfl (gS rfl (gS rfl (gS rfl g0))))) (gS rfl (gS rfl (gS rfl (gS rfl g0)))) (gS rfl (gS rfl (gS rfl g0))) g0 (fun g => ?_)
                                    refine c_true (et g0 rfl) (by (exact decide_eq_true (by omega))) ?_
                                    exact (by
                                      refine c_region ?_
                                      refine l_step (y_moveV (et (gS rfl (gS rfl (gS rfl (gS rfl (gS rfl g0))))) rfl)) ?_
                                      refine l_step (y_nil (et g0 rfl)) ?_
                                      refine l_step (y_fld fld_75_1 (et g0 rfl)) ?_
                                      refine l_eff (e_callV cal_268 (aC (et g0 rfl) aN) (hX.ex.mLen hms)) (fun v38 w38 h38 => ?_)
                                      obtain ⟨rfl, u38⟩ := h38
                                      replace k7 := k7.up u38
                                      replace hX := hX.up u38
                                      replace U := U.tr u38
                                      refine l_step (y_conv Hvaa.underlying60 Hvaa.underlying26 (et g0 rfl) (wrapU_id uk64 ?_)) ?_
                                      omega
                                      refine l_step (y_idxAC 0 0 Hvaa.underlying65 sz_26 (et (gS rfl (gS rfl (gS rfl (gS rfl (gS rfl (gS rfl (gS rfl (gS rfl g0)))))))) rfl) rfl rfl rfl) ?_
                                      refine l_effN (e_store sz_26 (et g0 rfl) (cellsV (et (gS rfl g0) rfl) rfl) rfl (by first | exact one_bL _ | exact one_uL _ | (intro v hv; simp at hv; subst hv; rfl)) k7 (by (rw [List.size_toArray, wL_len]; exact Nat.le_of_ble_eq_true rfl))) (fun v39 w39 h39 => ?_)
                                      obtain ⟨rfl, x39⟩ := h39
                                      replace hX := hX.ch x39.ch (by first | omega | (intro b hb; first | (subst hb; first | exact ⟨by omega, fun hh => by have := hfz.lt hh; omega, by omega⟩ | exact ⟨by omega, by assumption, by omega⟩) | (rcases hb with hb | hb <;> (subst hb; first | exact ⟨by omega, fun hh => by have := hfz.lt hh; omega, by omega⟩ | exact ⟨by omega, by assumption, by omega⟩))))
                                      replace k7 := x39.blk
                                      replace U := U.st x39 (.inr f7)
                                      rw [w0_put (by omega) rfl] at k7
                                      refine l_nil ?_
                                      refine hQ13 _ _ _ (in_normal ?_)
                                      refine hK10 _ _ ?_
                                      refine fg4 0 2 3 4 (gS rfl (gS rfl (gS rfl (gS rfl (gS rfl (gS rfl (gS rfl (gS rfl (gS rfl (gS rfl (gS rfl g0))))))))))) (gS rfl (gS rfl (gS rfl (gS rfl (gS rfl (gS rfl (gS rfl (gS rfl (gS rfl (gS rfl g0)))))))))) (gS rfl (gS rfl (gS rfl (gS rfl (gS rfl (gS rfl (gS rfl (gS rfl (gS rfl g0))))))))) (gS rfl (gS rfl (gS rfl (gS rfl (gS rfl (gS rfl (gS rfl (gS rfl g0)))))))) (fun g => ?_)
                                      refine c_region ?_
                                      refine l_step (y_moveV (et (gS rfl (gS rfl (gS rfl g0))) rfl)) ?_
                                      refine l_step (y_moveV (et (gS rfl (gS rfl (gS rfl g0))) rfl)) ?_
                                      refine l_step (y_moveV (et (gS rfl (gS rfl g0)) rfl)) ?_
                                      refine l_step (y_loadB agg_65 sz_65 (et (gS rfl (gS rfl (gS rfl (gS rfl g0)))) rfl) rfl (at1B k7)) ?_
                                      refine l_eff (e_callV cal_259 (aC (et (gS rfl (gS rfl (gS rfl g0))) rfl) (aC (et (gS rfl (gS rfl g0)) rfl) (aC (et (gS rfl g0) rfl) (aC rfl (aC (et g0 rfl) (aC (v := .int .u16 ((1 : Nat) : Int)) rfl aN)))))) (m_settle1 hX.ex hs hp rfl 0 _ 1 (by omega) hx8 (by omega) (by omega))) (fun v40 w40 h40 => ?_)
                                      obtain ⟨rfl, cs40, y40⟩ := h40
                                      replace k7 := k7.ch y40.et.go.ch (by intro hm; (have e0 := hm); omega)
                                      replace hX := hX.trans y40
                                      replace U := U.cc y40.et.go.ch (by intro b hb; exact .inl trivial)
                                      refine l_nil ?_
                                      refine end0 rfl ?_
                                      exact ⟨rfl, _, hX⟩))))))))))))))))))
theorem m_opSur90 {w : World} {H : Store} {col : Nat → Nat} {bc : Nat} {cs : Array Value} {V : EV} {s : YSt} {sn : List Nat} {sv : List AW} {ms : List (List Nat)} {c : Nat} {low : List YF} {f : YF} (hE : EX w H col bc cs V s sn sv ms c) (hs : s.frames = low ++ [f]) (hp : s.phase = 1) {lo : List (List Nat)} {m : List Nat} (hms : ms = lo ++ [m]) (hq : opcN f = 90) (hpc9 : f.pc < 512) (hlt9 : f.stack.length < 64) (hor9 : s.origin < A160) (hpr9 : s.price < W256) (hrl9 : s.ret.length ≤ 717280) :
    Ret 194 [.pointer (some ⟨bc, 0, none⟩)] w (fun v w' => v = .tuple #[] ∧ ∃ cs', XT w H col w' H col bc cs' V { s with frames := low ++ [ansN f 0 (f.gas)] } sn sv ms c) := by
  obtain ⟨n9, hn9, hR⟩ := hE.topF hs
  have hB := hE.fbT hs
  have h6 := hE.six hs
  have htop := hE.cTop hs
  have hphs := hE.cPh hp
  have hbp := hB.pc
  have hbs := hB.stk
  have hbg := hB.gas
  have hbc9 := hB.code
  have hnw := hE.vl.new
  have hfz := hE.vl.fz
  have hcC := hE.vl.colC
  have hbc0 := hE.vl.kC.lt
  have hX := XT.refl hE
  have hmx := hE.memMx hms
  obtain ⟨ca9, cc9, ia9, ic9, hr5, hcode, hinp⟩ := hR.r5
  obtain ⟨ra9, rc9, hret9, hrb9⟩ := hE.lx.ret
  have hbi9 := hB.input
  have hx8 : f.gas < W256 := lt_W (by omega)
  refine enter (n := 122) Hvaa.func194 rfl rfl (Nat.le_of_ble_eq_true rfl) ?_
  have U : Ch (fun _ => True) w w := Ch.refl _ w
  refine c_seq (fun K1 hK1 => ?_)
  exact (by
    refine c_region ?_
    refine l_step (y_moveV (et g0 rfl)) ?_
    refine l_eff (e_callV cal_183 (aC (et g0 rfl) aN) (m_running hX.ex hs hp)) (fun v2 w2 h2 => ?_)
    obtain ⟨rfl, u2⟩ := h2
    replace hX := hX.up u2
    replace U := U.tr u2
    refine l_step (y_assignV (et g0 rfl)) ?_
    refine l_nil ?_
    refine hK1 _ _ ?_
    refine fg2 0 2 (gS rfl (gS rfl (gS rfl g0))) g0 (fun g => ?_)
    refine c_seq (fun K3 hK3 => ?_)
    refine c_seq (fun K4 hK4 => ?_)
    exact (by
      refine c_region ?_
      refine l_step (y_moveV (et g0 rfl)) ?_
      refine l_step (y_eqlNil Hvaa.underlying276 (et g0 rfl) rfl) ?_
      refine l_nil ?_
      refine hK4 _ _ ?_
      refine fg3 0 2 8 (gS rfl (gS rfl (gS rfl g0))) (gS rfl (gS rfl g0)) g0 (fun g => ?_)
      refine c_false (et g0 rfl) rfl ?_
      refine c_skip ?_
      refine hK3 _ _ ?_
      refine fg2 0 2 (gS rfl (gS rfl g0)) (gS rfl g0) (fun g => ?_)
      refine c_seq (fun K6 hK6 => ?_)
      exact (by
        refine c_region ?_
        refine l_step (y_bld bN bld65_z) ?_
        refine l_eff (e_alloc zr_65) (fun v7 w7 h7 => ?_)
        obtain ⟨b7, rfl, n7⟩ := h7
        have f7 : w.heap.size ≤ b7 := Nat.le_trans U.size n7.fresh
        replace hX := hX.up n7.up
        replace U := U.tr n7.up
        have k7 := n7.blk
        obtain ⟨zs7, hz7, k7⟩ : ∃ cs : Array Value, cs.size = 4 ∧ Blk w7 b7 cs := ⟨_, rfl, k7⟩
        have nc7 : col b7 = 0 := hnw _ f7
        refine l_effN (e_store sz_65 (et g0 rfl) (cellsV (et (gS rfl g0) rfl) rfl) rfl (by exact one_uL _) k7 (by (first | (rw [hz7]; exact Nat.le_refl _) | (rw [List.size_toArray, wL_len]; exact Nat.le_refl _)))) (fun v8 w8 h8 => ?_)
        obtain ⟨rfl, x8⟩ := h8
        replace hX := hX.ch x8.ch (by first | omega | (intro b hb; first | (subst hb; first | exact ⟨by omega, fun hh => by have := hfz.lt hh; omega, by omega⟩ | exact ⟨by omega, by assumption, by omega⟩) | (rcases hb with hb | hb <;> (subst hb; first | exact ⟨by omega, fun hh => by have := hfz.lt hh; omega, by omega⟩ | exact ⟨by omega, by assumption, by omega⟩))))
        replace k7 := x8.blk.full (by first | (rw [hz7]; rfl) | (rw [List.size_toArray, wL_len, wL_len]))
        replace U := U.st x8 (.inr f7)
        refine l_nil ?_
        refine hK6 _ _ ?_
        refine fg3 0 2 3 (gS rfl (gS rfl (gS rfl g0))) (gS rfl (gS rfl g0)) g0 (fun g => ?_)
        refine c_seq (fun K9 hK9 => ?_)
        exact (by
          refine c_region ?_
          refine l_step y_assignC ?_
          refine l_nil ?_
          refine hK9 _ _ ?_
          refine c_seq (fun K10 hK10 => ?_)
          refine c_seq (fun K11 hK11 => ?_)
          exact (by
            refine c_region ?_
            refine l_step (y_moveV (et (gS rfl (gS rfl (gS rfl g0))) rfl)) ?_
            refine l_eff (e_callV cal_108 (aC (et g0 rfl) aN) (m_opcode hX.ex hs hp)) (fun v12 w12 h12 => ?_)
            obtain ⟨rfl, u12⟩ := h12
            replace k7 := k7.up u12
            replace hX := hX.up u12
            replace U := U.tr u12
            refine l_nil ?_
            refine hK11 _ _ ?_
            refine fg5 0 2 3 4 11 (gS rfl (gS rfl (gS rfl (gS rfl (gS rfl g0))))) (gS rfl (gS rfl (gS rfl (gS rfl g0)))) (gS rfl (gS rfl (gS rfl g0))) (gS rfl (gS rfl g0)) g0 (fun g => ?_)
            refine c_block (fun Q13 hQ13 => ?_)
            refine c_seq (fun K14 hK14 => ?_)
            exact (by
              refine c_region ?_
              refine l_step (y_eql (et g0 rfl) rfl) ?_
              refine l_step (y_assignV (et g0 rfl)) ?_
              refine l_nil ?_
              refine hK14 _ _ ?_
              refine fg6 0 2 3 4 11 12 (gS rfl (gS rfl (gS rfl (gS rfl (gS rfl (gS rfl g0)))))) (gS rfl (gS rfl (gS rfl (gS rfl (gS rfl g0))))) (gS rfl (gS rfl (gS rfl (gS rfl g0)))) (gS rfl (gS rfl (gS rfl g0))) (gS rfl (gS rfl g0)) g0 (fun g => ?_)
              refine c_false (et g0 rfl) (by (exact decide_eq_false (by omega))) ?_
              refine c_seq (fun K16 hK16 => ?_)
              exact (by
                refine c_region ?_
                refine l_step (y_eql (et (gS rfl g0) rfl) rfl) ?_
                refine l_step (y_assignV (et g0 rfl)) ?_
                refine l_nil ?_
                refine hK16 _ _ ?_
                refine fg6 0 2 3 4 11 19 (gS rfl (gS rfl (gS rfl (gS rfl (gS rfl (gS rfl (gS rfl g0))))))) (gS rfl (gS rfl (gS rfl (gS rfl (gS rfl (gS rfl g0)))))) (gS rfl (gS rfl (gS rfl (gS rfl (gS rfl g0))))) (gS rfl (gS rfl (gS rfl (gS rfl g0)))) (gS rfl (gS rfl (gS rfl g0))) g0 (fun g => ?_)
                refine c_false (et g0 rfl) (by (exact decide_eq_false (by omega))) ?_
                refine c_seq (fun K18 hK18 => ?_)
                exact (by
                  refine c_region ?_
                  refine l_step (y_eql (et (gS rfl g0) rfl) rfl) ?_
                  refine l_step (y_assignV (et g0 rfl)) ?_
                  refine l_nil ?_
                  refine hK18 _ _ ?_
                  refine fg6 0 2 3 4 11 26 (gS rfl (gS rfl (gS rfl (gS rfl (gS rfl (gS rfl (gS rfl g0))))))) (gS rfl (gS rfl (gS rfl (gS rfl (gS rfl (gS rfl g0)))))) (gS rfl (gS rfl (gS rfl (gS rfl (gS rfl g0))))) (gS rfl (gS rfl (gS rfl (gS rfl g0)))) (gS rfl (gS rfl (gS rfl g0))) g0 (fun g => ?_)
                  refine c_false (et g0 rfl) (by (exact decide_eq_false (by omega))) ?_
                  refine c_seq (fun K20 hK20 => ?_)
                  exact (by
                    refine c_region ?_
                    refine l_step (y_eql (et (gS rfl g0) rfl) rfl) ?_
                    refine l_step (y_assignV (et g0 rfl)) ?_
                    refine l_nil ?_
                    refine hK20 _ _ ?_
                    refine fg6 0 2 3 4 11 33 (gS rfl (gS rfl (gS rfl (gS rfl (gS rfl (gS rfl (gS rfl g0))))))) (gS rfl (gS rfl (gS rfl (gS rfl (gS rfl (gS rfl g0)))))) (gS rfl (gS rfl (gS rfl (gS rfl (gS rfl g0))))) (gS rfl (gS rfl (gS rfl (gS rfl g0)))) (gS rfl (gS rfl (gS rfl g0))) g0 (fun g => ?_)
                    refine c_false (et g0 rfl) (by (exact decide_eq_false (by omega))) ?_
                    refine c_seq (fun K22 hK22 => ?_)
                    exact (by
                      refine c_region ?_
                      refine l_step (y_eql (et (gS rfl g0) rfl) rfl) ?_
                      refine l_step (y_assignV (et g0 rfl)) ?_
                      refine l_nil ?_
                      refine hK22 _ _ ?_
                      refine fg6 0 2 3 4 11 39 (gS rfl (gS rfl (gS rfl (gS rfl (gS rfl (gS rfl (gS rfl g0))))))) (gS rfl (gS rfl (gS rfl (gS rfl (gS rfl (gS rfl g0)))))) (gS rfl (gS rfl (gS rfl (gS rfl (gS rfl g0))))) (gS rfl (gS rfl (gS rfl (gS rfl g0)))) (gS rfl (gS rfl (gS rfl g0))) g0 (fun g => ?_)
                      refine c_false (et g0 rfl) (by (exact decide_eq_false (by omega))) ?_
                      refine c_seq (fun K24 hK24 => ?_)
                      exact (by
                        refine c_region ?_
                        refine l_step (y_eql (et (gS rfl g0) rfl) rfl) ?_
                        refine l_step (y_assignV (et g0 rfl)) ?_
                        refine l_nil ?_
                        refine hK24 _ _ ?_
                        refine fg6 0 2 3 4 11 50 (gS rfl (gS rfl (gS rfl (gS rfl (gS rfl (gS rfl (gS rfl g0))))))) (gS rfl (gS rfl (gS rfl (gS rfl (gS rfl (gS rfl g0)))))) (gS rfl (gS rfl (gS rfl (gS rfl (gS rfl g0))))) (gS rfl (gS rfl (gS rfl (gS rfl g0)))) (gS rfl (gS rfl (gS rfl g0))) g0 (fun g => ?_)
                        refine c_false (et g0 rfl) (by (exact decide_eq_false (by omega))) ?_
                        refine c_seq (fun K26 hK26 => ?_)
                        exact (by
                          refine c_region ?_
                          refine l_step (y_eql (et (gS rfl g0) rfl) rfl) ?_
                          refine l_step (y_assignV (et g0 rfl)) ?_
                          refine l_nil ?_
                          refine hK26 _ _ ?_
                          refine fg6 0 2 3 4 11 59 (gS rfl (gS rfl (gS rfl (gS rfl (gS rfl (gS rfl (gS rfl g0))))))) (gS rfl (gS rfl (gS rfl (gS rfl (gS rfl (gS rfl g0)))))) (gS rfl (gS rfl (gS rfl (gS rfl (gS rfl g0))))) (gS rfl (gS rfl (gS rfl (gS rfl g0)))) (gS rfl (gS rfl (gS rfl g0))) g0 (fun g => ?_)
                          refine c_false (et g0 rfl) (by (exact decide_eq_false (by omega))) ?_
                          refine c_seq (fun K28 hK28 => ?_)
                          exact (by
                            refine c_region ?_
                            refine l_step (y_eql (et (gS rfl g0) rfl) rfl) ?_
                            refine l_step (y_assignV (et g0 rfl)) ?_
                            refine l_nil ?_
                            refine hK28 _ _ ?_
                            refine fg6 0 2 3 4 11 68 (gS rfl (gS rfl (gS rfl (gS rfl (gS rfl (gS rfl (gS rfl g0))))))) (gS rfl (gS rfl (gS rfl (gS rfl (gS rfl (gS rfl g0)))))) (gS rfl (gS rfl (gS rfl (gS rfl (gS rfl g0))))) (gS rfl (gS rfl (gS rfl (gS rfl g0)))) (gS rfl (gS rfl (gS rfl g0))) g0 (fun g => ?_)
                            refine c_false (et g0 rfl) (by (exact decide_eq_false (by omega))) ?_
                            refine c_seq (fun K30 hK30 => ?_)
                            exact (by
                              refine c_region ?_
                              refine l_step (y_eql (et (gS rfl g0) rfl) rfl) ?_
                              refine l_step (y_assignV (et g0 rfl)) ?_
                              refine l_nil ?_
                              refine hK30 _ _ ?_
                              refine fg6 0 2 3 4 11 74 (gS rfl (gS rfl (gS rfl (gS rfl (gS rfl (gS rfl (gS rfl g0))))))) (gS rfl (gS rfl (gS rfl (gS rfl (gS rfl (gS rfl g0)))))) (gS rfl (gS rfl (gS rfl (gS rfl (gS rfl g0))))) (gS rfl (gS rfl (gS rfl (gS rfl g0)))) (gS rfl (gS rfl (gS rfl g0))) g0 (fun g => ?_)
                              refine c_false (et g0 rfl) (by (exact decide_eq_false (by omega))) ?_
                              refine c_seq (fun K32 hK32 => ?_)
                              exact (by
                                refine c_region ?_
                                refine l_step (y_eql (et (gS rfl g0) rfl) rfl) ?_
                                refine l_step (y_assignV (et g0 rfl)) ?_
                                refine l_nil ?_
                                refine hK32 _ _ ?_
                                refine fg6 0 2 3 4 11 83 (gS rfl (gS rfl (gS rfl (gS rfl (gS rfl (gS rfl (gS rfl g0))))))) (gS rfl (gS rfl (gS rfl (gS rfl (gS rfl (gS rfl g0)))))) (gS rfl (gS rfl (gS rfl (gS rfl (gS rfl g0))))) (gS rfl (gS rfl (gS rfl (gS rfl g0)))) (gS rfl (gS rfl (gS rfl g0))) g0 (fun g => ?_)
                                refine c_false (et g0 rfl) (by (exact decide_eq_false (by omega))) ?_
                                refine c_seq (fun K34 hK34 => ?_)
                                exact (by
                                  refine c_region ?_
                                  refine l_step (y_eql (et (gS rfl g0) rfl) rfl) ?_
                                  refine l_step (y_assignV (et g0 rfl)) ?_
                                  refine l_nil ?_
                                  refine hK34 _ _ ?_
                                  refine fg6 0 2 3 4 11 94 (gS rfl (gS rfl (gS rfl (gS rfl (gS rfl (gS rfl (gS rfl g0))))))) (gS rfl (gS rfl (gS rfl (gS rfl (gS rfl (gS rfl g0)))))) (gS rfl (gS rfl (gS rfl (gS rfl (gS rfl g0))))) (gS rfl (gS rfl (gS rfl (gS rfl g0)))) (gS rfl (gS rfl (gS rfl g0))) g0 (fun g => ?_)
                                  refine c_false (et g0 rfl) (by (exact decide_eq_false (by omega))) ?_
                                  refine c_seq (fun K36 hK36 => ?_)
                                  exact (by
                                    refine c_region ?_
                                    refine l_step (y_eql (et (gS rfl g0) rfl) rfl) ?_
                                    refine l_step (y_assignV (et g0 rfl)) ?_
                                    refine l_nil ?_
                                    refine hK36 _ _ ?_
                                    refine fg6 0 2 3 4 11 102 (gS rfl (gS rfl (gS rfl (gS rfl (gS rfl (gS rfl (gS rfl g0))))))) (gS rfl (gS rfl (gS rfl (gS rfl (gS rfl (gS rfl g0)))))) (gS rfl (gS rfl (gS rfl (gS rfl (gS rfl g0))))) (gS rfl (gS rfl (gS rfl (gS rfl g0)))) (gS rfl (gS rfl (gS rfl g0))) g0 (fun g => ?_)
                                    refine c_false (et g0 rfl) (by (exact decide_eq_false (by omega))) ?_
                                    refine c_seq (fun K38 hK38 => ?_)
                                    exact (by
                                      refine c_region ?_
                                      refine l_step (y_eql (et (gS rfl g0) rfl) rfl) ?_
                                      refine l_step (y_assignV (et g0 rfl)) ?_
                                      refine l_nil ?_
                                      refine hK38 _ _ ?_
                                      refine fg5 0 2 3 4 110 (gS rfl (gS rfl (gS rfl (gS rfl (gS rfl (gS rfl (gS rfl g0))))))) (gS rfl (gS rfl (gS rfl (gS rfl (gS rfl (gS rfl g0)))))) (gS rfl (gS rfl (gS rfl (gS rfl (gS rfl g0))))) (gS rfl (gS rfl (gS rfl (gS rfl g0)))) g0 (fun g => ?_)
                                      refine c_true (et g0 rfl) (by (exact decide_eq_true (by omega))) ?_
                                      exact (by
                                        refine c_region ?_
                                        refine l_step (y_moveV (et (gS rfl (gS rfl (gS rfl g0))) rfl)) ?_
                                        refine l_step (y_nil (et g0 rfl)) ?_
                                        refine l_step (y_fld fld_71_7 (et g0 rfl)) ?_
                                        refine l_step (y_load1 one_26 (et g0 rfl) (at1 (hX.ex.vl.c1 (hR.r1 7 _ rfl) (by omega)))) ?_
                                        refine l_step (y_idxAC 0 0 Hvaa.underlying65 sz_26 (et (gS rfl (gS rfl (gS rfl (gS rfl (gS rfl (gS rfl g0)))))) rfl) rfl rfl rfl) ?_
                                        refine l_effN (e_store sz_26 (et g0 rfl) (cellsV (et (gS rfl g0) rfl) rfl) rfl (by first | exact one_bL _ | exact one_uL _ | (intro v hv; simp at hv; subst hv; rfl)) k7 (by (rw [List.size_toArray, wL_len]; exact Nat.le_of_ble_eq_true rfl))) (fun v40 w40 h40 => ?_)
                                        obtain ⟨rfl, x40⟩ := h40
                                        replace hX := hX.ch x40.ch (by first | omega | (intro b hb; first | (subst hb; first | exact ⟨by omega, fun hh => by have := hfz.lt hh; omega, by omega⟩ | exact ⟨by omega, by assumption, by omega⟩) | (rcases hb with hb | hb <;> (subst hb; first | exact ⟨by omega, fun hh => by have := hfz.lt hh; omega, by omega⟩ | exact ⟨by omega, by assumption, by omega⟩))))
                                        replace k7 := x40.blk
                                        replace U := U.st x40 (.inr f7)
                                        rw [w0_put (by omega) rfl] at k7
                                        refine l_nil ?_
                                        refine hQ13 _ _ _ (in_normal ?_)
                                        refine hK10 _ _ ?_
                                        refine fg4 0 2 3 4 (gS rfl (gS rfl (gS rfl (gS rfl (gS rfl (gS rfl (gS rfl (gS rfl (gS rfl g0))))))))) (gS rfl (gS rfl (gS rfl (gS rfl (gS rfl (gS rfl (gS rfl (gS rfl g0)))))))) (gS rfl (gS rfl (gS rfl (gS rfl (gS rfl (gS rfl (gS rfl g0))))))) (gS rfl (gS rfl (gS rfl (gS rfl (gS rfl (gS rfl g0)))))) (fun g => ?_)
                                        refine c_region ?_
                                        refine l_step (y_moveV (et (gS rfl (gS rfl (gS rfl g0))) rfl)) ?_
                                        refine l_step (y_moveV (et (gS rfl (gS rfl (gS rfl g0))) rfl)) ?_
                                        refine l_step (y_moveV (et (gS rfl (gS rfl g0)) rfl)) ?_
                                        refine l_step (y_loadB agg_65 sz_65 (et (gS rfl (gS rfl (gS rfl (gS rfl g0)))) rfl) rfl (at1B k7)) ?_
                                        refine l_eff (e_callV cal_259 (aC (et (gS rfl (gS rfl (gS rfl g0))) rfl) (aC (et (gS rfl (gS rfl g0)) rfl) (aC (et (gS rfl g0) rfl) (aC rfl (aC (et g0 rfl) (aC (v := .int .u16 ((1 : Nat) : Int)) rfl aN)))))) (m_settle1 hX.ex hs hp rfl 0 _ 1 (by omega) hx8 (by omega) (by omega))) (fun v41 w41 h41 => ?_)
                                        obtain ⟨rfl, cs41, y41⟩ := h41
                                        replace k7 := k7.ch y41.et.go.ch (by intro hm; (have e0 := hm); omega)
                                        replace hX := hX.trans y41
                                        replace U := U.cc y41.et.go.ch (by intro b hb; exact .inl trivial)
                                        refine l_nil ?_
                                        refine end0 rfl ?_
                                        exact ⟨rfl, _, hX⟩)))))))))))))))))))
end Go.Proofs.YgvaawGreat
