import Derived.Test.YgvaawGreatZ14
set_option maxRecDepth 100000
set_option maxHeartbeats 4000000
set_option linter.unusedSimpArgs false
set_option linter.unusedVariables false
namespace Go.Proofs.YgvaawGreat
open Go
theorem be_last (a : Nat) : (be 32 a).drop 31 = [a % 256] := by
  show (be 31 (a / 256) ++ [a % 256]).drop 31 = _
  rw [List.drop_append_of_le_length (by rw [length_be]; exact Nat.le_refl _), List.drop_of_length_le (by rw [length_be]; exact Nat.le_refl _)]
  rfl
theorem hV_of {l : List Nat} (hl : l.length = 32) (hd : Dig 256 l) : bV l = hV (ofBE l) := by
  unfold hV
  have := be_ofBE l hd
  rw [hl] at this
  rw [this]
section
variable {w w' : World} {H : Store} {col : Nat → Nat} {bc : Nat} {cs : Array Value} {V : EV} {s : YSt} {sn : List Nat} {sv : List AW} {ms : List (List Nat)} {c : Nat} {lo : List (List Nat)} {m : List Nat}
theorem EX.mLdH (hE : EX w H col bc cs V s sn sv ms c) (hms : ms = lo ++ [m]) (off : Nat) (hok : off + 32 ≤ m.length) : Ret 301 [.pointer (some ⟨bc, 1, none⟩), .int .u32 (off : Nat)] w (fun v w' => v = .tuple #[hV (ofBE (cutN m off 32)), .bool true] ∧ Up w w') := by
  rw [← hV_of (len_cut _ _ _) (dig_cut (hE.memDig hms) _ _)]
  exact hE.mLd32 hms off hok
end
theorem limb0_mod (a : Nat) : limb a 0 % 256 = a % 256 := by
  unfold limb
  rw [Nat.pow_zero, Nat.div_one]
  omega
theorem m_opMload {w : World} {H : Store} {col : Nat → Nat} {bc : Nat} {cs : Array Value} {V : EV} {s : YSt} {sn : List Nat} {sv : List AW} {ms : List (List Nat)} {c : Nat} {low : List YF} {f : YF} (hE : EX w H col bc cs V s sn sv ms c) (hs : s.frames = low ++ [f]) (hp : s.phase = 1) {lo : List (List Nat)} {m : List Nat} (hms : ms = lo ++ [m]) (hq : opcN f = 81) (hpc9 : f.pc < 512) (htk9 : 1 ≤ f.stack.length) (hr : argN f.stack 0 + 32 ≤ m.length) :
    Ret 197 [.pointer (some ⟨bc, 0, none⟩)] w (fun v w' => v = .tuple #[] ∧ ∃ cs', XT w H col w' H col bc cs' V { s with frames := low ++ [ansN f 1 (ofBE (cutN m (argN f.stack 0) 32))] } sn sv ms c) := by
  obtain ⟨n9, hn9, hR⟩ := hE.topF hs
  have hB := hE.fbT hs
  have h6 := hE.six hs
  have htop := hE.cTop hs
  have hphs := hE.cPh hp
  have hbp := hB.pc
  have hbs := hB.stk
  have hbg := hB.gas
  have hbc9 := hB.code
  have hnw := hE.vl.new
  have hfz := hE.vl.fz
  have hcC := hE.vl.colC
  have hbc0 := hE.vl.kC.lt
  have hX := XT.refl hE
  have hmx := hE.memMx hms
  have hx8 : ofBE (cutN m (argN f.stack 0) 32) < W256 := by have h9 := ofBE_lt _ (dig_cut (hE.memDig hms) (argN f.stack 0) 32); rw [len_cut] at h9; exact h9
  refine enter (n := 69) Hvaa.func197 rfl rfl (Nat.le_of_ble_eq_true rfl) ?_
  have U : Ch (fun _ => True) w w := Ch.refl _ w
  refine c_seq (fun K1 hK1 => ?_)
  exact (by
    refine c_region ?_
    refine l_step (y_moveV (et g0 rfl)) ?_
    refine l_eff (e_callV cal_183 (aC (et g0 rfl) aN) (m_running hX.ex hs hp)) (fun v2 w2 h2 => ?_)
    obtain ⟨rfl, u2⟩ := h2
    replace hX := hX.up u2
    replace U := U.tr u2
    refine l_step (y_assignV (et g0 rfl)) ?_
    refine l_nil ?_
    refine hK1 _ _ ?_
    refine fg2 0 2 (gS rfl (gS rfl (gS rfl g0))) g0 (fun g => ?_)
    refine c_seq (fun K3 hK3 => ?_)
    refine c_seq (fun K4 hK4 => ?_)
    exact (by
      refine c_region ?_
      refine l_step (y_moveV (et g0 rfl)) ?_
      refine l_step (y_eqlNil Hvaa.underlying276 (et g0 rfl) rfl) ?_
      refine l_nil ?_
      refine hK4 _ _ ?_
      refine fg3 0 2 10 (gS rfl (gS rfl (gS rfl g0))) (gS rfl (gS rfl g0)) g0 (fun g => ?_)
      refine c_false (et g0 rfl) rfl ?_
      refine c_skip ?_
      refine hK3 _ _ ?_
      refine fg2 0 2 (gS rfl (gS rfl g0)) (gS rfl g0) (fun g => ?_)
      refine c_seq (fun K6 hK6 => ?_)
      exact (by
        refine c_region ?_
        refine l_step (y_moveV (et (gS rfl g0) rfl)) ?_
        refine l_step (y_moveV (et (gS rfl g0) rfl)) ?_
        refine l_eff (e_callV cal_264 (aC (et (gS rfl g0) rfl) (aC (et g0 rfl) (aC (v := .int .i64 ((0 : Nat) : Int)) rfl aN))) (m_arg hX.ex hs hp (by first | exact hpf | rfl) _ (by decide))) (fun v7 w7 h7 => ?_)
        obtain ⟨rfl, u7⟩ := h7
        replace hX := hX.up u7
        replace U := U.tr u7
        refine l_eff (e_callV cal_299 (aC (et g0 rfl) aN) (m_small _ _ (by omega))) (fun v8 w8 h8 => ?_)
        obtain ⟨rfl, u8⟩ := h8
        replace hX := hX.up u8
        replace U := U.tr u8
        refine l_step (y_assignV (et g0 rfl)) ?_
        refine l_nil ?_
        refine hK6 _ _ ?_
        refine fg3 0 2 3 (gS rfl (gS rfl (gS rfl (gS rfl (gS rfl (gS rfl g0)))))) (gS rfl (gS rfl (gS rfl (gS rfl (gS rfl g0))))) g0 (fun g => ?_)
        refine c_seq (fun K9 hK9 => ?_)
        exact (by
          refine c_region ?_
          refine l_step (y_moveV (et (gS rfl (gS rfl g0)) rfl)) ?_
          refine l_step (y_moveV (et (gS rfl (gS rfl g0)) rfl)) ?_
          refine l_eff (e_callV cal_264 (aC (et (gS rfl g0) rfl) (aC (et g0 rfl) (aC (v := .int .i64 ((1 : Nat) : Int)) rfl aN))) (m_arg hX.ex hs hp (by first | exact hpf | rfl) _ (by decide))) (fun v10 w10 h10 => ?_)
          obtain ⟨rfl, u10⟩ := h10
          replace hX := hX.up u10
          replace U := U.tr u10
          refine l_eff (e_alloc zr_65) (fun v11 w11 h11 => ?_)
          obtain ⟨b11, rfl, n11⟩ := h11
          have f11 : w.heap.size ≤ b11 := Nat.le_trans U.size n11.fresh
          replace hX := hX.up n11.up
          replace U := U.tr n11.up
          have k11 := n11.blk
          obtain ⟨zs11, hz11, k11⟩ : ∃ cs : Array Value, cs.size = 4 ∧ Blk w11 b11 cs := ⟨_, rfl, k11⟩
          have nc11 : col b11 = 0 := hnw _ f11
          refine l_effN (e_store sz_65 (et g0 rfl) (cellsV (et (gS rfl g0) rfl) rfl) rfl (by exact one_uL _) k11 (by (first | (rw [hz11]; exact Nat.le_refl _) | (rw [List.size_toArray, wL_len]; exact Nat.le_refl _)))) (fun v12 w12 h12 => ?_)
          obtain ⟨rfl, x12⟩ := h12
          replace hX := hX.ch x12.ch (by first | omega | (intro b hb; first | (subst hb; exact ⟨by omega, fun hh => by have := hfz.lt hh; omega, by omega⟩) | (rcases hb with hb | hb <;> (subst hb; exact ⟨by omega, fun hh => by have := hfz.lt hh; omega, by omega⟩))))
          replace k11 := x12.blk.full (by first | (rw [hz11]; rfl) | (rw [List.size_toArray, wL_len, wL_len]))
          replace U := U.st x12 (.inr f11)
          refine l_nil ?_
          refine hK9 _ _ ?_
          refine fg4 0 2 3 4 (gS rfl (gS rfl (gS rfl (gS rfl (gS rfl (gS rfl g0)))))) (gS rfl (gS rfl (gS rfl (gS rfl (gS rfl g0))))) (gS rfl (gS rfl (gS rfl (gS rfl g0)))) g0 (fun g => ?_)
          refine c_seq (fun K13 hK13 => ?_)
          refine c_seq (fun K14 hK14 => ?_)
          exact (by
            refine c_region ?_
            refine l_step (y_moveV (et (gS rfl (gS rfl (gS rfl g0))) rfl)) ?_
            refine l_eff (e_callV cal_108 (aC (et g0 rfl) aN) (m_opcode hX.ex hs hp)) (fun v15 w15 h15 => ?_)
            obtain ⟨rfl, u15⟩ := h15
            replace k11 := k11.up u15
            replace hX := hX.up u15
            replace U := U.tr u15
            refine l_nil ?_
            refine hK14 _ _ ?_
            refine fg5 0 2 3 4 19 (gS rfl (gS rfl (gS rfl (gS rfl (gS rfl g0))))) (gS rfl (gS rfl (gS rfl (gS rfl g0)))) (gS rfl (gS rfl (gS rfl g0))) (gS rfl (gS rfl g0)) g0 (fun g => ?_)
            refine c_block (fun Q16 hQ16 => ?_)
            refine c_seq (fun K17 hK17 => ?_)
            exact (by
              refine c_region ?_
              refine l_step (y_eql (et g0 rfl) rfl) ?_
              refine l_step (y_assignV (et g0 rfl)) ?_
              refine l_nil ?_
              refine hK17 _ _ ?_
              refine fg6 0 2 3 4 19 20 (gS rfl (gS rfl (gS rfl (gS rfl (gS rfl (gS rfl g0)))))) (gS rfl (gS rfl (gS rfl (gS rfl (gS rfl g0))))) (gS rfl (gS rfl (gS rfl (gS rfl g0)))) (gS rfl (gS rfl (gS rfl g0))) (gS rfl (gS rfl g0)) g0 (fun g => ?_)
              refine c_true (et g0 rfl) (by (exact decide_eq_true (by omega))) ?_
              refine c_seq (fun K19 hK19 => ?_)
              exact (by
                refine c_region ?_
                refine l_step (y_moveV (et (gS rfl (gS rfl (gS rfl (gS rfl (gS rfl g0))))) rfl)) ?_
                refine l_step (y_nil (et g0 rfl)) ?_
                refine l_step (y_fld fld_75_1 (et g0 rfl)) ?_
                refine l_step (y_moveV (et (gS rfl (gS rfl (gS rfl (gS rfl (gS rfl (gS rfl g0)))))) rfl)) ?_
                refine l_eff (e_callV cal_301 (aC (et (gS rfl g0) rfl) (aC (et g0 rfl) aN)) (hX.ex.mLdH hms _ (by omega))) (fun v20 w20 h20 => ?_)
                obtain ⟨rfl, u20⟩ := h20
                replace k11 := k11.up u20
                replace hX := hX.up u20
                replace U := U.tr u20
                refine l_step (y_moveV (et g0 rfl)) ?_
                refine l_step (y_ext (et g0 rfl) rfl) ?_
                refine l_step (y_ext (et (gS rfl g0) rfl) rfl) ?_
                refine l_eff (e_alloc zr_27) (fun v21 w21 h21 => ?_)
                obtain ⟨b21, rfl, n21⟩ := h21
                have d11_21 : b11 < b21 := Nat.lt_of_lt_of_le k11.lt n21.fresh
                have f21 : w.heap.size ≤ b21 := Nat.le_trans U.size n21.fresh
                replace k11 := k11.up n21.up
                replace hX := hX.up n21.up
                replace U := U.tr n21.up
                have k21 := n21.blk
                obtain ⟨zs21, hz21, k21⟩ : ∃ cs : Array Value, cs.size = 32 ∧ Blk w21 b21 cs := ⟨_, rfl, k21⟩
                have nc21 : col b21 = 0 := hnw _ f21
                refine l_effN (e_store sz_27 (et g0 rfl) (cellsV (et (gS rfl (gS rfl g0)) rfl) rfl) (by rw [length_bL, length_be]) (by exact one_bL _) k21 (by (rw [hz21]; exact Nat.le_refl _))) (fun v22 w22 h22 => ?_)
                obtain ⟨rfl, x22⟩ := h22
                replace k11 := k11.ch x22.ch (by omega)
                replace hX := hX.ch x22.ch (by first | omega | (intro b hb; first | (subst hb; exact ⟨by omega, fun hh => by have := hfz.lt hh; omega, by omega⟩) | (rcases hb with hb | hb <;> (subst hb; exact ⟨by omega, fun hh => by have := hfz.lt hh; omega, by omega⟩))))
                replace k21 := x22.blk.full (by rw [hz21, length_bL, length_be])
                replace U := U.st x22 (.inr f21)
                refine l_step (y_assignV (et (gS rfl g0) rfl)) ?_
                refine l_nil ?_
                refine hK19 _ _ ?_
                refine fg4 0 2 5 6 (gS rfl (gS rfl (gS rfl (gS rfl (gS rfl (gS rfl (gS rfl (gS rfl (gS rfl (gS rfl (gS rfl (gS rfl (gS rfl (gS rfl (gS rfl g0))))))))))))))) (gS rfl (gS rfl (gS rfl (gS rfl (gS rfl (gS rfl (gS rfl (gS rfl (gS rfl (gS rfl (gS rfl (gS rfl (gS rfl (gS rfl g0)))))))))))))) (gS rfl g0) g0 (fun g => ?_)
                refine c_seq (fun K23 hK23 => ?_)
                refine c_seq (fun K24 hK24 => ?_)
                exact (by
                  refine c_region ?_
                  refine l_step (y_moveV (et g0 rfl)) ?_
                  refine l_step (y_not (et g0 rfl)) ?_
                  refine l_nil ?_
                  refine hK24 _ _ ?_
                  refine fg4 0 2 5 31 (gS rfl (gS rfl (gS rfl (gS rfl (gS rfl g0))))) (gS rfl (gS rfl (gS rfl (gS rfl g0)))) (gS rfl (gS rfl (gS rfl g0))) g0 (fun g => ?_)
                  refine c_false (et g0 rfl) (by rfl) ?_
                  refine c_skip ?_
                  refine hK23 _ _ ?_
                  refine fg3 0 2 5 (gS rfl (gS rfl (gS rfl g0))) (gS rfl (gS rfl g0)) (gS rfl g0) (fun g => ?_)
                  refine c_seq (fun K26 hK26 => ?_)
                  exact (by
                    refine c_region ?_
                    refine l_step (y_moveV (et (gS rfl (gS rfl g0)) rfl)) ?_
                    refine l_step (y_moveV (et (gS rfl (gS rfl g0)) rfl)) ?_
                    refine l_step (y_loadB agg_27 sz_27 (et (gS rfl (gS rfl g0)) rfl) (by rw [List.size_toArray, length_bL, length_be]) (at1B k21)) ?_
                    refine l_eff (e_callV cal_83 (aC (et g0 rfl) aN) (fromBytes_spec _ _)) (fun v27 w27 h27 => ?_)
                    obtain ⟨rfl, u27⟩ := h27
                    replace k11 := k11.up u27
                    replace k21 := k21.up u27
                    replace hX := hX.up u27
                    replace U := U.tr u27
                    refine l_eff (e_callV cal_259 (aC (et (gS rfl (gS rfl (gS rfl g0))) rfl) (aC (et (gS rfl (gS rfl g0)) rfl) (aC (v := .int .u16 ((1 : Nat) : Int)) rfl (aC rfl (aC (et g0 rfl) (aC (v := .int .u16 ((1 : Nat) : Int)) rfl aN)))))) (m_settle1 hX.ex hs hp rfl 1 _ 1 (by omega) hx8 (by omega) (by omega))) (fun v28 w28 h28 => ?_)
                    obtain ⟨rfl, cs28, y28⟩ := h28
                    replace k11 := k11.ch y28.et.go.ch (by intro hm; (have e0 := hm); omega)
                    replace k21 := k21.ch y28.et.go.ch (by intro hm; (have e0 := hm); omega)
                    replace hX := hX.trans y28
                    replace U := U.cc y28.et.go.ch (by intro b hb; exact .inl trivial)
                    refine l_nil ?_
                    refine hK26 _ _ ?_
                    refine fg0 (fun g => ?_)
                    refine c_ret ?_
                    refine hQ16 _ _ _ (in_ret ?_)
                    repeat with_reducible refine then_ret ?_
                    refine ret0 rfl ?_
                    exact ⟨rfl, _, hX⟩)))))))))
theorem m_opMstore {w : World} {H : Store} {col : Nat → Nat} {bc : Nat} {cs : Array Value} {V : EV} {s : YSt} {sn : List Nat} {sv : List AW} {ms : List (List Nat)} {c : Nat} {low : List YF} {f : YF} (hE : EX w H col bc cs V s sn sv ms c) (hs : s.frames = low ++ [f]) (hp : s.phase = 1) {lo : List (List Nat)} {m : List Nat} (hms : ms = lo ++ [m]) (hq : opcN f = 82) (hpc9 : f.pc < 512) (htk9 : 2 ≤ f.stack.length) (hr : argN f.stack 0 + 32 ≤ m.length) :
    Ret 197 [.pointer (some ⟨bc, 0, none⟩)] w (fun v w' => v = .tuple #[] ∧ ∃ cs', XT w H col w' H col bc cs' V { s with frames := low ++ [setF f 2 false 0 1] } sn sv (lo ++ [wrN m (argN f.stack 0) (be 32 (argN f.stack 1))]) c) := by
  obtain ⟨n9, hn9, hR⟩ := hE.topF hs
  have hB := hE.fbT hs
  have h6 := hE.six hs
  have htop := hE.cTop hs
  have hphs := hE.cPh hp
  have hbp := hB.pc
  have hbs := hB.stk
  have hbg := hB.gas
  have hbc9 := hB.code
  have hnw := hE.vl.new
  have hfz := hE.vl.fz
  have hcC := hE.vl.colC
  have hbc0 := hE.vl.kC.lt
  have hX := XT.refl hE
  have hmx := hE.memMx hms
  refine enter (n := 69) Hvaa.func197 rfl rfl (Nat.le_of_ble_eq_true rfl) ?_
  have U : Ch (fun _ => True) w w := Ch.refl _ w
  refine c_seq (fun K1 hK1 => ?_)
  exact (by
    refine c_region ?_
    refine l_step (y_moveV (et g0 rfl)) ?_
    refine l_eff (e_callV cal_183 (aC (et g0 rfl) aN) (m_running hX.ex hs hp)) (fun v2 w2 h2 => ?_)
    obtain ⟨rfl, u2⟩ := h2
    replace hX := hX.up u2
    replace U := U.tr u2
    refine l_step (y_assignV (et g0 rfl)) ?_
    refine l_nil ?_
    refine hK1 _ _ ?_
    refine fg2 0 2 (gS rfl (gS rfl (gS rfl g0))) g0 (fun g => ?_)
    refine c_seq (fun K3 hK3 => ?_)
    refine c_seq (fun K4 hK4 => ?_)
    exact (by
      refine c_region ?_
      refine l_step (y_moveV (et g0 rfl)) ?_
      refine l_step (y_eqlNil Hvaa.underlying276 (et g0 rfl) rfl) ?_
      refine l_nil ?_
      refine hK4 _ _ ?_
      refine fg3 0 2 10 (gS rfl (gS rfl (gS rfl g0))) (gS rfl (gS rfl g0)) g0 (fun g => ?_)
      refine c_false (et g0 rfl) rfl ?_
      refine c_skip ?_
      refine hK3 _ _ ?_
      refine fg2 0 2 (gS rfl (gS rfl g0)) (gS rfl g0) (fun g => ?_)
      refine c_seq (fun K6 hK6 => ?_)
      exact (by
        refine c_region ?_
        refine l_step (y_moveV (et (gS rfl g0) rfl)) ?_
        refine l_step (y_moveV (et (gS rfl g0) rfl)) ?_
        refine l_eff (e_callV cal_264 (aC (et (gS rfl g0) rfl) (aC (et g0 rfl) (aC (v := .int .i64 ((0 : Nat) : Int)) rfl aN))) (m_arg hX.ex hs hp (by first | exact hpf | rfl) _ (by decide))) (fun v7 w7 h7 => ?_)
        obtain ⟨rfl, u7⟩ := h7
        replace hX := hX.up u7
        replace U := U.tr u7
        refine l_eff (e_callV cal_299 (aC (et g0 rfl) aN) (m_small _ _ (by omega))) (fun v8 w8 h8 => ?_)
        obtain ⟨rfl, u8⟩ := h8
        replace hX := hX.up u8
        replace U := U.tr u8
        refine l_step (y_assignV (et g0 rfl)) ?_
        refine l_nil ?_
        refine hK6 _ _ ?_
        refine fg3 0 2 3 (gS rfl (gS rfl (gS rfl (gS rfl (gS rfl (gS rfl g0)))))) (gS rfl (gS rfl (gS rfl (gS rfl (gS rfl g0))))) g0 (fun g => ?_)
        refine c_seq (fun K9 hK9 => ?_)
        exact (by
          refine c_region ?_
          refine l_step (y_moveV (et (gS rfl (gS rfl g0)) rfl)) ?_
          refine l_step (y_moveV (et (gS rfl (gS rfl g0)) rfl)) ?_
          refine l_eff (e_callV cal_264 (aC (et (gS rfl g0) rfl) (aC (et g0 rfl) (aC (v := .int .i64 ((1 : Nat) : Int)) rfl aN))) (m_arg hX.ex hs hp (by first | exact hpf | rfl) _ (by decide))) (fun v10 w10 h10 => ?_)
          obtain ⟨rfl, u10⟩ := h10
          replace hX := hX.up u10
          replace U := U.tr u10
          refine l_eff (e_alloc zr_65) (fun v11 w11 h11 => ?_)
          obtain ⟨b11, rfl, n11⟩ := h11
          have f11 : w.heap.size ≤ b11 := Nat.le_trans U.size n11.fresh
          replace hX := hX.up n11.up
          replace U := U.tr n11.up
          have k11 := n11.blk
          obtain ⟨zs11, hz11, k11⟩ : ∃ cs : Array Value, cs.size = 4 ∧ Blk w11 b11 cs := ⟨_, rfl, k11⟩
          have nc11 : col b11 = 0 := hnw _ f11
          refine l_effN (e_store sz_65 (et g0 rfl) (cellsV (et (gS rfl g0) rfl) rfl) rfl (by exact one_uL _) k11 (by (first | (rw [hz11]; exact Nat.le_refl _) | (rw [List.size_toArray, wL_len]; exact Nat.le_refl _)))) (fun v12 w12 h12 => ?_)
          obtain ⟨rfl, x12⟩ := h12
          replace hX := hX.ch x12.ch (by first | omega | (intro b hb; first | (subst hb; exact ⟨by omega, fun hh => by have := hfz.lt hh; omega, by omega⟩) | (rcases hb with hb | hb <;> (subst hb; exact ⟨by omega, fun hh => by have := hfz.lt hh; omega, by omega⟩))))
          replace k11 := x12.blk.full (by first | (rw [hz11]; rfl) | (rw [List.size_toArray, wL_len, wL_len]))
          replace U := U.st x12 (.inr f11)
          refine l_nil ?_
          refine hK9 _ _ ?_
          refine fg4 0 2 3 4 (gS rfl (gS rfl (gS rfl (gS rfl (gS rfl (gS rfl g0)))))) (gS rfl (gS rfl (gS rfl (gS rfl (gS rfl g0))))) (gS rfl (gS rfl (gS rfl (gS rfl g0)))) g0 (fun g => ?_)
          refine c_seq (fun K13 hK13 => ?_)
          refine c_seq (fun K14 hK14 => ?_)
          exact (by
            refine c_region ?_
            refine l_step (y_moveV (et (gS rfl (gS rfl (gS rfl g0))) rfl)) ?_
            refine l_eff (e_callV cal_108 (aC (et g0 rfl) aN) (m_opcode hX.ex hs hp)) (fun v15 w15 h15 => ?_)
            obtain ⟨rfl, u15⟩ := h15
            replace k11 := k11.up u15
            replace hX := hX.up u15
            replace U := U.tr u15
            refine l_nil ?_
            refine hK14 _ _ ?_
            refine fg5 0 2 3 4 19 (gS rfl (gS rfl (gS rfl (gS rfl (gS rfl g0))))) (gS rfl (gS rfl (gS rfl (gS rfl g0)))) (gS rfl (gS rfl (gS rfl g0))) (gS rfl (gS rfl g0)) g0 (fun g => ?_)
            refine c_block (fun Q16 hQ16 => ?_)
            refine c_seq (fun K17 hK17 => ?_)
            exact (by
              refine c_region ?_
              refine l_step (y_eql (et g0 rfl) rfl) ?_
              refine l_step (y_assignV (et g0 rfl)) ?_
              refine l_nil ?_
              refine hK17 _ _ ?_
              refine fg6 0 2 3 4 19 20 (gS rfl (gS rfl (gS rfl (gS rfl (gS rfl (gS rfl g0)))))) (gS rfl (gS rfl (gS rfl (gS rfl (gS rfl g0))))) (gS rfl (gS rfl (gS rfl (gS rfl g0)))) (gS rfl (gS rfl (gS rfl g0))) (gS rfl (gS rfl g0)) g0 (fun g => ?_)
              refine c_false (et g0 rfl) (by (exact decide_eq_false (by omega))) ?_
              refine c_seq (fun K19 hK19 => ?_)
              exact (by
                refine c_region ?_
                refine l_step (y_eql (et (gS rfl g0) rfl) rfl) ?_
                refine l_step (y_assignV (et g0 rfl)) ?_
                refine l_nil ?_
                refine hK19 _ _ ?_
                refine fg6 0 2 3 4 19 39 (gS rfl (gS rfl (gS rfl (gS rfl (gS rfl (gS rfl (gS rfl g0))))))) (gS rfl (gS rfl (gS rfl (gS rfl (gS rfl (gS rfl g0)))))) (gS rfl (gS rfl (gS rfl (gS rfl (gS rfl g0))))) (gS rfl (gS rfl (gS rfl (gS rfl g0)))) (gS rfl (gS rfl (gS rfl g0))) g0 (fun g => ?_)
                refine c_true (et g0 rfl) (by (exact decide_eq_true (by omega))) ?_
                refine c_seq (fun K21 hK21 => ?_)
                exact (by
                  refine c_draw (SX _ bc) 8 [(0, true), (1, true), (2, true), (3, true), (4, true), (5, false), (6, false), (7, true)] (by kernel_rfl) (fun w22 hu => ⟨SX.refl (hX.up hu), ?_⟩)
                  replace k11 := k11.up hu
                  replace hX := hX.up hu
                  replace U := U.tr hu
                  have SU := SX.refl hX
                  have cq := cq_refl hX
                  have hX_s := hX
                  have k11_s := k11
                  refine p_step (by exact rfl) (y_moveV (et (gS rfl (gS rfl (gS rfl (gS rfl (gS rfl g0))))) rfl)) ?_
                  refine p_step (by exact rfl) (y_nil (et g0 rfl)) ?_
                  refine p_step (by exact rfl) (y_fld fld_75_1 (et g0 rfl)) ?_
                  refine p_step (by exact rfl) (y_moveV (et (gS rfl (gS rfl (gS rfl (gS rfl (gS rfl (gS rfl g0)))))) rfl)) ?_
                  refine p_step (by exact rfl) (y_loadB agg_65 sz_65 (et (gS rfl (gS rfl (gS rfl (gS rfl (gS rfl (gS rfl g0)))))) rfl) rfl (atXB k11_s (by omega))) ?_
                  refine p_eff (by exact rfl) (e_callV cal_76 (aC (et g0 rfl) aN) (wBE32_spec _ _)) (fun v23 w23 h23 => ?_)
                  obtain ⟨rfl, u23⟩ := h23
                  replace k11 := k11.up u23
                  replace hX := hX.up u23
                  replace U := U.tr u23
                  refine ⟨.inr (SU.tr u23), ?_⟩
                  replace SU := SU.tr u23
                  refine p_eff (by exact rfl) (e_callV cal_302 (aC (et (gS rfl (gS rfl (gS rfl g0))) rfl) (aC (et (gS rfl (gS rfl g0)) rfl) (aC (et g0 rfl) aN))) (hX.ex.mSt32 hms _ (by omega) _)) (fun v24 w24 h24 => ?_)
                  obtain ⟨rfl, m24, z24⟩ := h24
                  replace k11 := k11.ch z24 (by intro hm; (have e0 := hm); omega)
                  replace hX := hX.mem z24 (fun b hb => hb) m24
                  replace U := U.cc z24 (by intro b hb; exact .inl trivial)
                  have cq9 := SU.ch.size
                  replace SU := SU.xc z24 (hX.ex.vl.c1 hX.ex.lx.pS rfl) (by intro b hlt hb; have h9 := cq b hlt; have e0 := hb; first | omega | (dsimp only at e0; omega))
                  refine ⟨.inr SU, ?_⟩
                  refine p_step (by exact rfl) (y_not (et g0 rfl)) ?_
                  refine p_nil ?_
                  refine hK21 _ _ ?_
                  refine fg3 0 2 48 (gS rfl (gS rfl (gS rfl (gS rfl (gS rfl (gS rfl (gS rfl (gS rfl (gS rfl (gS rfl (gS rfl (gS rfl (gS rfl g0))))))))))))) (gS rfl (gS rfl (gS rfl (gS rfl (gS rfl (gS rfl (gS rfl (gS rfl (gS rfl (gS rfl (gS rfl (gS rfl g0)))))))))))) g0 (fun g => ?_)
                  refine c_false (et g0 rfl) (by rfl) ?_
                  refine c_skip ?_
                  refine hQ16 _ _ _ (in_normal ?_)
                  refine hK13 _ _ ?_
                  refine fg2 0 2 (gS rfl (gS rfl g0)) (gS rfl g0) (fun g => ?_)
                  exact (by
                    refine c_region ?_
                    refine l_step (y_moveV (et (gS rfl g0) rfl)) ?_
                    refine l_step (y_moveV (et (gS rfl g0) rfl)) ?_
                    refine l_step (y_bld bN bld65_z) ?_
                    refine l_eff (e_callV cal_259 (aC (et (gS rfl (gS rfl g0)) rfl) (aC (et (gS rfl g0) rfl) (aC (v := .int .u16 ((2 : Nat) : Int)) rfl (aC rfl (aC (et g0 rfl) (aC (v := .int .u16 ((1 : Nat) : Int)) rfl aN)))))) (m_settle0 hX.ex hs hp (by first | exact hpf | rfl) 2 0 1 (by omega) (by decide) (by omega))) (fun v26 w26 h26 => ?_)
                    obtain ⟨rfl, cs26, y26⟩ := h26
                    replace k11 := k11.ch y26.et.go.ch (by intro hm; (have e0 := hm); omega)
                    replace hX := hX.trans y26
                    replace U := U.cc y26.et.go.ch (by intro b hb; exact .inl trivial)
                    refine l_nil ?_
                    refine end0 rfl ?_
                    exact ⟨rfl, _, hX⟩)))))))))
theorem m_opMstore8 {w : World} {H : Store} {col : Nat → Nat} {bc : Nat} {cs : Array Value} {V : EV} {s : YSt} {sn : List Nat} {sv : List AW} {ms : List (List Nat)} {c : Nat} {low : List YF} {f : YF} (hE : EX w H col bc cs V s sn sv ms c) (hs : s.frames = low ++ [f]) (hp : s.phase = 1) {lo : List (List Nat)} {m : List Nat} (hms : ms = lo ++ [m]) (hq : opcN f = 83) (hpc9 : f.pc < 512) (htk9 : 2 ≤ f.stack.length) (hr : argN f.stack 0 + 1 ≤ m.length) :
    Ret 197 [.pointer (some ⟨bc, 0, none⟩)] w (fun v w' => v = .tuple #[] ∧ ∃ cs', XT w H col w' H col bc cs' V { s with frames := low ++ [setF f 2 false 0 1] } sn sv (lo ++ [wrN m (argN f.stack 0) ((be 32 (argN f.stack 1)).drop 31)]) c) := by
  obtain ⟨n9, hn9, hR⟩ := hE.topF hs
  have hB := hE.fbT hs
  have h6 := hE.six hs
  have htop := hE.cTop hs
  have hphs := hE.cPh hp
  have hbp := hB.pc
  have hbs := hB.stk
  have hbg := hB.gas
  have hbc9 := hB.code
  have hnw := hE.vl.new
  have hfz := hE.vl.fz
  have hcC := hE.vl.colC
  have hbc0 := hE.vl.kC.lt
  have hX := XT.refl hE
  have hmx := hE.memMx hms
  refine enter (n := 69) Hvaa.func197 rfl rfl (Nat.le_of_ble_eq_true rfl) ?_
  have U : Ch (fun _ => True) w w := Ch.refl _ w
  refine c_seq (fun K1 hK1 => ?_)
  exact (by
    refine c_region ?_
    refine l_step (y_moveV (et g0 rfl)) ?_
    refine l_eff (e_callV cal_183 (aC (et g0 rfl) aN) (m_running hX.ex hs hp)) (fun v2 w2 h2 => ?_)
    obtain ⟨rfl, u2⟩ := h2
    replace hX := hX.up u2
    replace U := U.tr u2
    refine l_step (y_assignV (et g0 rfl)) ?_
    refine l_nil ?_
    refine hK1 _ _ ?_
    refine fg2 0 2 (gS rfl (gS rfl (gS rfl g0))) g0 (fun g => ?_)
    refine c_seq (fun K3 hK3 => ?_)
    refine c_seq (fun K4 hK4 => ?_)
    exact (by
      refine c_region ?_
      refine l_step (y_moveV (et g0 rfl)) ?_
      refine l_step (y_eqlNil Hvaa.underlying276 (et g0 rfl) rfl) ?_
      refine l_nil ?_
      refine hK4 _ _ ?_
      refine fg3 0 2 10 (gS rfl (gS rfl (gS rfl g0))) (gS rfl (gS rfl g0)) g0 (fun g => ?_)
      refine c_false (et g0 rfl) rfl ?_
      refine c_skip ?_
      refine hK3 _ _ ?_
      refine fg2 0 2 (gS rfl (gS rfl g0)) (gS rfl g0) (fun g => ?_)
      refine c_seq (fun K6 hK6 => ?_)
      exact (by
        refine c_region ?_
        refine l_step (y_moveV (et (gS rfl g0) rfl)) ?_
        refine l_step (y_moveV (et (gS rfl g0) rfl)) ?_
        refine l_eff (e_callV cal_264 (aC (et (gS rfl g0) rfl) (aC (et g0 rfl) (aC (v := .int .i64 ((0 : Nat) : Int)) rfl aN))) (m_arg hX.ex hs hp (by first | exact hpf | rfl) _ (by decide))) (fun v7 w7 h7 => ?_)
        obtain ⟨rfl, u7⟩ := h7
        replace hX := hX.up u7
        replace U := U.tr u7
        refine l_eff (e_callV cal_299 (aC (et g0 rfl) aN) (m_small _ _ (by omega))) (fun v8 w8 h8 => ?_)
        obtain ⟨rfl, u8⟩ := h8
        replace hX := hX.up u8
        replace U := U.tr u8
        refine l_step (y_assignV (et g0 rfl)) ?_
        refine l_nil ?_
        refine hK6 _ _ ?_
        refine fg3 0 2 3 (gS rfl (gS rfl (gS rfl (gS rfl (gS rfl (gS rfl g0)))))) (gS rfl (gS rfl (gS rfl (gS rfl (gS rfl g0))))) g0 (fun g => ?_)
        refine c_seq (fun K9 hK9 => ?_)
        exact (by
          refine c_region ?_
          refine l_step (y_moveV (et (gS rfl (gS rfl g0)) rfl)) ?_
          refine l_step (y_moveV (et (gS rfl (gS rfl g0)) rfl)) ?_
          refine l_eff (e_callV cal_264 (aC (et (gS rfl g0) rfl) (aC (et g0 rfl) (aC (v := .int .i64 ((1 : Nat) : Int)) rfl aN))) (m_arg hX.ex hs hp (by first | exact hpf | rfl) _ (by decide))) (fun v10 w10 h10 => ?_)
          obtain ⟨rfl, u10⟩ := h10
          replace hX := hX.up u10
          replace U := U.tr u10
          refine l_eff (e_alloc zr_65) (fun v11 w11 h11 => ?_)
          obtain ⟨b11, rfl, n11⟩ := h11
          have f11 : w.heap.size ≤ b11 := Nat.le_trans U.size n11.fresh
          replace hX := hX.up n11.up
          replace U := U.tr n11.up
          have k11 := n11.blk
          obtain ⟨zs11, hz11, k11⟩ : ∃ cs : Array Value, cs.size = 4 ∧ Blk w11 b11 cs := ⟨_, rfl, k11⟩
          have nc11 : col b11 = 0 := hnw _ f11
          refine l_effN (e_store sz_65 (et g0 rfl) (cellsV (et (gS rfl g0) rfl) rfl) rfl (by exact one_uL _) k11 (by (first | (rw [hz11]; exact Nat.le_refl _) | (rw [List.size_toArray, wL_len]; exact Nat.le_refl _)))) (fun v12 w12 h12 => ?_)
          obtain ⟨rfl, x12⟩ := h12
          replace hX := hX.ch x12.ch (by first | omega | (intro b hb; first | (subst hb; exact ⟨by omega, fun hh => by have := hfz.lt hh; omega, by omega⟩) | (rcases hb with hb | hb <;> (subst hb; exact ⟨by omega, fun hh => by have := hfz.lt hh; omega, by omega⟩))))
          replace k11 := x12.blk.full (by first | (rw [hz11]; rfl) | (rw [List.size_toArray, wL_len, wL_len]))
          replace U := U.st x12 (.inr f11)
          refine l_nil ?_
          refine hK9 _ _ ?_
          refine fg4 0 2 3 4 (gS rfl (gS rfl (gS rfl (gS rfl (gS rfl (gS rfl g0)))))) (gS rfl (gS rfl (gS rfl (gS rfl (gS rfl g0))))) (gS rfl (gS rfl (gS rfl (gS rfl g0)))) g0 (fun g => ?_)
          refine c_seq (fun K13 hK13 => ?_)
          refine c_seq (fun K14 hK14 => ?_)
          exact (by
            refine c_region ?_
            refine l_step (y_moveV (et (gS rfl (gS rfl (gS rfl g0))) rfl)) ?_
            refine l_eff (e_callV cal_108 (aC (et g0 rfl) aN) (m_opcode hX.ex hs hp)) (fun v15 w15 h15 => ?_)
            obtain ⟨rfl, u15⟩ := h15
            replace k11 := k11.up u15
            replace hX := hX.up u15
            replace U := U.tr u15
            refine l_nil ?_
            refine hK14 _ _ ?_
            refine fg5 0 2 3 4 19 (gS rfl (gS rfl (gS rfl (gS rfl (gS rfl g0))))) (gS rfl (gS rfl (gS rfl (gS rfl g0)))) (gS rfl (gS rfl (gS rfl g0))) (gS rfl (gS rfl g0)) g0 (fun g => ?_)
            refine c_block (fun Q16 hQ16 => ?_)
            refine c_seq (fun K17 hK17 => ?_)
            exact (by
              refine c_region ?_
              refine l_step (y_eql (et g0 rfl) rfl) ?_
              refine l_step (y_assignV (et g0 rfl)) ?_
              refine l_nil ?_
              refine hK17 _ _ ?_
              refine fg6 0 2 3 4 19 20 (gS rfl (gS rfl (gS rfl (gS rfl (gS rfl (gS rfl g0)))))) (gS rfl (gS rfl (gS rfl (gS rfl (gS rfl g0))))) (gS rfl (gS rfl (gS rfl (gS rfl g0)))) (gS rfl (gS rfl (gS rfl g0))) (gS rfl (gS rfl g0)) g0 (fun g => ?_)
              refine c_false (et g0 rfl) (by (exact decide_eq_false (by omega))) ?_
              refine c_seq (fun K19 hK19 => ?_)
              exact (by
                refine c_region ?_
                refine l_step (y_eql (et (gS rfl g0) rfl) rfl) ?_
                refine l_step (y_assignV (et g0 rfl)) ?_
                refine l_nil ?_
                refine hK19 _ _ ?_
                refine fg6 0 2 3 4 19 39 (gS rfl (gS rfl (gS rfl (gS rfl (gS rfl (gS rfl (gS rfl g0))))))) (gS rfl (gS rfl (gS rfl (gS rfl (gS rfl (gS rfl g0)))))) (gS rfl (gS rfl (gS rfl (gS rfl (gS rfl g0))))) (gS rfl (gS rfl (gS rfl (gS rfl g0)))) (gS rfl (gS rfl (gS rfl g0))) g0 (fun g => ?_)
                refine c_false (et g0 rfl) (by (exact decide_eq_false (by omega))) ?_
                refine c_seq (fun K21 hK21 => ?_)
                exact (by
                  refine c_region ?_
                  refine l_step (y_eql (et (gS rfl g0) rfl) rfl) ?_
                  refine l_step (y_assignV (et g0 rfl)) ?_
                  refine l_nil ?_
                  refine hK21 _ _ ?_
                  refine fg5 0 2 3 4 51 (gS rfl (gS rfl (gS rfl (gS rfl (gS rfl (gS rfl (gS rfl g0))))))) (gS rfl (gS rfl (gS rfl (gS rfl (gS rfl (gS rfl g0)))))) (gS rfl (gS rfl (gS rfl (gS rfl (gS rfl g0))))) (gS rfl (gS rfl (gS rfl (gS rfl g0)))) g0 (fun g => ?_)
                  refine c_true (et g0 rfl) (by (exact decide_eq_true (by omega))) ?_
                  refine c_seq (fun K23 hK23 => ?_)
                  exact (by
                    refine c_draw (SX _ bc) 10 [(0, true), (1, true), (2, true), (3, true), (4, true), (5, true), (6, true), (7, true), (8, false), (9, true)] (by kernel_rfl) (fun w24 hu => ⟨SX.refl (hX.up hu), ?_⟩)
                    replace k11 := k11.up hu
                    replace hX := hX.up hu
                    replace U := U.tr hu
                    have SU := SX.refl hX
                    have cq := cq_refl hX
                    have hX_s := hX
                    have k11_s := k11
                    refine p_step (by exact rfl) (y_moveV (et (gS rfl (gS rfl (gS rfl (gS rfl g0)))) rfl)) ?_
                    refine p_step (by exact rfl) (y_nil (et g0 rfl)) ?_
                    refine p_step (by exact rfl) (y_fld fld_75_1 (et g0 rfl)) ?_
                    refine p_step (by exact rfl) (y_moveV (et (gS rfl (gS rfl (gS rfl (gS rfl (gS rfl g0))))) rfl)) ?_
                    refine p_step (by exact rfl) (y_idxAC 0 0 Hvaa.underlying65 sz_26 (et (gS rfl (gS rfl (gS rfl (gS rfl (gS rfl g0))))) rfl) rfl rfl rfl) ?_
                    refine p_step (by exact rfl) (y_load1 one_26 (et g0 rfl) (atX (k11_s.cell rfl) (by omega))) ?_
                    refine p_step (by exact rfl) (y_andM 8 256 uk64 (et g0 rfl) rfl ?_ rfl rfl (by decide)) ?_
                    exact limb_lt _ _
                    refine p_step (by exact rfl) (y_conv Hvaa.underlying26 Hvaa.underlying5 (et g0 rfl) (wrapU_id uk8 ?_)) ?_
                    omega
                    refine p_eff (by exact rfl) (e_callV cal_303 (aC (et (gS rfl (gS rfl (gS rfl (gS rfl (gS rfl g0))))) rfl) (aC (et (gS rfl (gS rfl (gS rfl (gS rfl g0)))) rfl) (aC (et g0 rfl) aN))) (hX.ex.mSt8 hms _ _ (by omega) (Nat.mod_lt _ (by decide)))) (fun v25 w25 h25 => ?_)
                    obtain ⟨rfl, m25, z25⟩ := h25
                    replace k11 := k11.ch z25 (by intro hm; (have e0 := hm); omega)
                    replace hX := hX.mem z25 (fun b hb => hb) m25
                    replace U := U.cc z25 (by intro b hb; exact .inl trivial)
                    have cq9 := SU.ch.size
                    replace SU := SU.xc z25 (hX.ex.vl.c1 hX.ex.lx.pS rfl) (by intro b hlt hb; have h9 := cq b hlt; have e0 := hb; first | omega | (dsimp only at e0; omega))
                    refine ⟨.inr SU, ?_⟩
                    refine p_step (by exact rfl) (y_not (et g0 rfl)) ?_
                    refine p_nil ?_
                    refine hK23 _ _ ?_
                    refine fg3 0 2 62 (gS rfl (gS rfl (gS rfl (gS rfl (gS rfl (gS rfl (gS rfl (gS rfl (gS rfl (gS rfl (gS rfl (gS rfl (gS rfl (gS rfl g0)))))))))))))) (gS rfl (gS rfl (gS rfl (gS rfl (gS rfl (gS rfl (gS rfl (gS rfl (gS rfl (gS rfl (gS rfl (gS rfl (gS rfl g0))))))))))))) g0 (fun g => ?_)
                    refine c_false (et g0 rfl) (by rfl) ?_
                    refine c_skip ?_
                    refine hQ16 _ _ _ (in_normal ?_)
                    refine hK13 _ _ ?_
                    refine fg2 0 2 (gS rfl (gS rfl g0)) (gS rfl g0) (fun g => ?_)
                    exact (by
                      refine c_region ?_
                      refine l_step (y_moveV (et (gS rfl g0) rfl)) ?_
                      refine l_step (y_moveV (et (gS rfl g0) rfl)) ?_
                      refine l_step (y_bld bN bld65_z) ?_
                      refine l_eff (e_callV cal_259 (aC (et (gS rfl (gS rfl g0)) rfl) (aC (et (gS rfl g0) rfl) (aC (v := .int .u16 ((2 : Nat) : Int)) rfl (aC rfl (aC (et g0 rfl) (aC (v := .int .u16 ((1 : Nat) : Int)) rfl aN)))))) (m_settle0 hX.ex hs hp (by first | exact hpf | rfl) 2 0 1 (by omega) (by decide) (by omega))) (fun v27 w27 h27 => ?_)
                      obtain ⟨rfl, cs27, y27⟩ := h27
                      replace k11 := k11.ch y27.et.go.ch (by intro hm; (have e0 := hm); omega)
                      replace hX := hX.trans y27
                      replace U := U.cc y27.et.go.ch (by intro b hb; exact .inl trivial)
                      refine l_nil ?_
                      refine end0 rfl ?_
                      rw [limb0_mod] at hX
                      exact ⟨rfl, _, by rw [be_last]; exact hX⟩))))))))))
end Go.Proofs.YgvaawGreat
