import Derived.Test.YgvaawGreatZ30
import Derived.Test.YgvaawGreatW4
set_option maxRecDepth 100000
set_option maxHeartbeats 4000000
set_option linter.unusedSimpArgs false
set_option linter.unusedVariables false
namespace Go.Proofs.YgvaawGreat
open Go
theorem XT.reS {w0 w : World} {H0 H : Store} {col0 col : Nat → Nat} {bc : Nat} {cs : Array Value} {V : EV} {s s' : YSt} {sn : List Nat} {sv : List AW} {ms : List (List Nat)} {c : Nat} (h : XT w0 H0 col0 w H col bc cs V s sn sv ms c) (e : s' = s) : XT w0 H0 col0 w H col bc cs V s' sn sv ms c := e ▸ h
theorem fcv_ds {u : YF} {vc vi : Value} {dp sb n : Nat} {ds ds' : List Nat} (h : ds.length = 8) (h' : ds'.length = 8) : spl (fcv u vc vi dp sb n ds).toArray 55 (uL ds') = (fcv u vc vi dp sb n ds').toArray := by
  have e : ∀ ds : List Nat, fcv u vc vi dp sb n ds = ([.int .u8 (u.kind : Nat), .int .u8 (dp : Nat), .int .u8 (u.ntv : Nat), .bool u.static, .int .u16 (u.pc : Nat), .int .u16 (sb : Nat), .int .u16 (u.stack.length : Nat), .int .u64 (u.gas : Nat), .int .i32 (n : Nat)] ++ (bL (be 20 u.self) ++ (bL (be 20 u.caller) ++ (wL u.value ++ [vc, vi])))) ++ uL ds ++ [.int .u32 (u.outOff : Nat), .int .u32 (u.outLen : Nat)] := fun ds => by
    unfold fcv
    simp only [List.append_assoc]
  have h1 := spl_app (A := [.int .u8 (u.kind : Nat), .int .u8 (dp : Nat), .int .u8 (u.ntv : Nat), .bool u.static, .int .u16 (u.pc : Nat), .int .u16 (sb : Nat), .int .u16 (u.stack.length : Nat), .int .u64 (u.gas : Nat), .int .i32 (n : Nat)] ++ (bL (be 20 u.self) ++ (bL (be 20 u.caller) ++ (wL u.value ++ [vc, vi])))) (M := uL ds) (C := [.int .u32 (u.outOff : Nat), .int .u32 (u.outLen : Nat)]) (Q := uL ds') (by rw [length_uL, length_uL, h, h'])
  rw [show ([.int .u8 (u.kind : Nat), .int .u8 (dp : Nat), .int .u8 (u.ntv : Nat), .bool u.static, .int .u16 (u.pc : Nat), .int .u16 (sb : Nat), .int .u16 (u.stack.length : Nat), .int .u64 (u.gas : Nat), .int .i32 (n : Nat)] ++ (bL (be 20 u.self) ++ (bL (be 20 u.caller) ++ (wL u.value ++ [vc, vi]))) : List Value).length = 55 by simp only [List.length_append, length_bL, length_be, wL_len, List.length_cons, List.length_nil]] at h1
  rw [e ds, e ds']
  exact h1
theorem topI64 {n : Nat} (h : n ≤ 7) : IntKind.i64.wrap (((n : Nat) : Int) - 1) = ((n : Nat) : Int) - 1 := wrap_i64 (by omega) (by omega)
theorem topAdd {n : Nat} (h : n ≤ 7) : IntKind.i64.wrap (((n : Nat) : Int) - 1 + 1) = ((n : Nat) : Int) := by rw [wrap_i64 (by omega) (by omega)]; omega
theorem topI8 {n : Nat} (h : n ≤ 6) : IntKind.i8.wrap ((n : Nat) : Int) = ((n : Nat) : Int) := by
  rcases (show n = 0 ∨ n = 1 ∨ n = 2 ∨ n = 3 ∨ n = 4 ∨ n = 5 ∨ n = 6 by omega) with rfl | rfl | rfl | rfl | rfl | rfl | rfl <;> decide
theorem fcv_one {u : YF} {ca ia : Option Addr} {k cc j ic dp sb n : Nat} {ds : List Nat} : ∀ v ∈ fcv u (.slice ca k cc) (.slice ia j ic) dp sb n ds, v.one1 = true := by
  intro v hv
  unfold fcv at hv
  simp only [List.mem_append] at hv
  rcases hv with hv | hv | hv | hv | hv | hv | hv
  · simp at hv
    rcases hv with rfl | rfl | rfl | rfl | rfl | rfl | rfl | rfl | rfl <;> rfl
  · exact one_bL _ v hv
  · exact one_bL _ v hv
  · exact one_uL _ v hv
  · simp at hv
    rcases hv with rfl | rfl <;> rfl
  · exact one_uL _ v hv
  · simp at hv
    rcases hv with rfl | rfl <;> rfl
theorem cr_made {k : Nat} (h : crN k = true) : k ≠ 3 ∧ k ≠ 7 := by
  constructor <;> (intro e; subst e; cases h)
theorem m_enter {w : World} {H : Store} {col : Nat → Nat} {bc : Nat} {cs : Array Value} {V : EV} {s : YSt} {sn : List Nat} {sv : List AW} {ms : List (List Nat)} {c : Nat} (hE : EX w H col bc cs V s sn sv ms c) (hp1 : s.phase ≤ 1) (h6 : s.frames.length ≤ 6) (hm6 : ms.length ≤ 6) {u : YF} {ca ia : Option Addr} {cc ic : Nat} (hbc : BV H (.slice ca u.code.length cc) u.code) (hbi : BV H (.slice ia u.input.length ic) u.input) (hU : EFB u) (hst0 : u.stack = []) {c' : Nat} (hap : s.applied ≤ 4) (hmk : 100 * V.marks.length + (gasS s + c) ≤ 1048576) (hcc : c' + u.gas + (if crN u.kind = true then 50 else 0) + (if u.kind ≠ 3 ∧ u.kind ≠ 7 ∧ u.value ≠ 0 then 50 else 0) ≤ c) (hhs : hasA V u.self) (hhc : hasA V u.caller) (hle : u.kind ≠ 3 → u.kind ≠ 7 → u.value ≤ (acctAt (entA1 s.now u) u.caller).bal) (hov : u.kind ≠ 3 → u.kind ≠ 7 → u.value ≠ 0 → (acctAt (takeB (entA1 s.now u) u.caller u.value) u.self).bal + u.value < W256) (hlm : cs[2407]? = some (.int .u64 (s.limit : Nat))) (hmd : RowIn cs 2415 (bL (be 20 s.made))) (hor : hasA V s.origin ∧ hasA V s.env.coinbase) :
    Ret 105 [.pointer (some ⟨bc, 0, none⟩), .agg (fcv u (.slice ca u.code.length cc) (.slice ia u.input.length ic) 0 0 0 (List.replicate 8 0)).toArray] w (fun v w' => v = .bool true ∧ ∃ col' cs' V', XT w H col w' H col' bc cs' V' { entY s u with phase := 1 } (sn ++ [V.marks.length]) (sv ++ [absY s.now]) (ms ++ [[]]) c') := by
  have hX := XT.refl hE
  have hnw := hE.vl.new
  have hfz := hE.vl.fz
  have hcC := hE.vl.colC
  have hbc0 := hE.vl.kC.lt
  have hro := hE.room hap
  have hro2 := hro.m
  have hck := hU.code
  have hg9 := hU.gas
  have hkd := hU.kind
  have hfre := hE.px.fresh hE.lx.snl
  refine enter (n := 117) Hvaa.func105 rfl rfl (Nat.le_of_ble_eq_true rfl) ?_
  have U : Ch (fun _ => True) w w := Ch.refl _ w
  refine c_seq (fun K1 hK1 => ?_)
  exact (by
    refine c_region ?_
    refine l_eff (e_boxV (et (gS rfl g0) rfl)) (fun v2 w2 h2 => ?_)
    obtain ⟨b2, rfl, n2⟩ := h2
    have f2 : w.heap.size ≤ b2 := Nat.le_trans U.size n2.fresh
    replace hX := hX.up n2.up
    replace U := U.tr n2.up
    have k2 := n2.blk
    have nc2 : col b2 = 0 := hnw _ f2
    replace k2 : Blk w2 b2 (fcv u (.slice ca u.code.length cc) (.slice ia u.input.length ic) 0 0 0 (List.replicate 8 0)).toArray := k2
    refine l_step y_assignC ?_
    refine l_nil ?_
    refine hK1 _ _ ?_
    refine fg2 0 3 (gS rfl (gS rfl g0)) (gS rfl g0) (fun g => ?_)
    refine c_seq (fun K3 hK3 => ?_)
    exact (by
      refine c_region ?_
      refine l_step (y_moveV (et (gS rfl g0) rfl)) ?_
      refine l_step (y_nil (et g0 rfl)) ?_
      refine l_step (y_fld fld_75_4 (et g0 rfl)) ?_
      refine l_step (y_load1 one_73 (et g0 rfl) (at1 (hX.ex.vl.c1 hX.ex.lx.top (by omega)))) ?_
      refine l_step (y_conv Hvaa.underlying73 Hvaa.underlying3 (et g0 rfl) (topI64 (by omega))) ?_
      refine l_step (y_add (et g0 rfl) rfl (topAdd (by omega))) ?_
      refine l_step (y_assignV (et g0 rfl)) ?_
      refine l_nil ?_
      refine hK3 _ _ ?_
      refine fg3 0 3 5 (gS rfl (gS rfl (gS rfl (gS rfl (gS rfl (gS rfl (gS rfl (gS rfl g0)))))))) (gS rfl (gS rfl (gS rfl (gS rfl (gS rfl (gS rfl (gS rfl g0))))))) g0 (fun g => ?_)
      refine c_seq (fun K4 hK4 => ?_)
      refine c_seq (fun K5 hK5 => ?_)
      exact (by
        refine c_region ?_
        refine l_step (y_moveV (et g0 rfl)) ?_
        refine l_step (y_lss (et g0 rfl) rfl) ?_
        refine l_step (y_moveV (et g0 rfl)) ?_
        refine gsplitL (i := 15) g0 (fun q6 => ?_) (fun q6 => ?_)
        · skip
          exact absurd (of_decide_eq_true q6) (by omega)
        · skip
          refine l_gstep (j := 2) (t := 15) (by exact rfl) (by exact rfl) (et g0 rfl) (by decide) (y_moveV (et (gS rfl (gS rfl (gS rfl (gS rfl g0)))) rfl)) ?_
          refine l_gstep (j := 2) (t := 15) (by exact rfl) (by exact rfl) (et (gS rfl g0) rfl) (by decide) (y_gtr (et g0 rfl) rfl) ?_
          refine l_step (y_pickF (et (gS rfl (gS rfl g0)) rfl) (et g0 rfl)) ?_
          refine l_step (y_moveV (et g0 rfl)) ?_
          refine gsplitL (i := 19) g0 (fun q7 => ?_) (fun q7 => ?_)
          · skip
            exact absurd (of_decide_eq_true q7) (by omega)
          · skip
            refine l_gstep (j := 6) (t := 19) (by exact rfl) (by exact rfl) (et g0 rfl) (by decide) (y_moveV (et (gS rfl (gS rfl (gS rfl (gS rfl (gS rfl (gS rfl (gS rfl (gS rfl (gS rfl (gS rfl (gS rfl g0))))))))))) rfl)) ?_
            refine l_gstep (j := 6) (t := 19) (by exact rfl) (by exact rfl) (et (gS rfl g0) rfl) (by decide) (y_nil (et g0 rfl)) ?_
            refine l_gstep (j := 6) (t := 19) (by exact rfl) (by exact rfl) (et (gS rfl (gS rfl g0)) rfl) (by decide) (y_fld fld_75_0 (et g0 rfl)) ?_
            refine l_gstep (j := 6) (t := 19) (by exact rfl) (by exact rfl) (et (gS rfl (gS rfl (gS rfl g0))) rfl) (by decide) (y_load1 one_59 (et g0 rfl) (at1 (hX.ex.vl.c1 hX.ex.lx.pS rfl))) ?_
            refine l_gstep (j := 6) (t := 19) (by exact rfl) (by exact rfl) (et (gS rfl (gS rfl (gS rfl (gS rfl g0)))) rfl) (by decide) (y_eqlNil Hvaa.underlying59 (et g0 rfl) rfl) ?_
            refine l_step (y_pickF (et (gS rfl (gS rfl (gS rfl (gS rfl (gS rfl g0))))) rfl) (et g0 rfl)) ?_
            refine l_nil ?_
            refine hK5 _ _ ?_
            refine fg4 0 3 5 25 (gS rfl (gS rfl (gS rfl (gS rfl (gS rfl (gS rfl (gS rfl (gS rfl (gS rfl (gS rfl (gS rfl (gS rfl (gS rfl (gS rfl (gS rfl (gS rfl (gS rfl g0))))))))))))))))) (gS rfl (gS rfl (gS rfl (gS rfl (gS rfl (gS rfl (gS rfl (gS rfl (gS rfl (gS rfl (gS rfl (gS rfl (gS rfl (gS rfl (gS rfl (gS rfl g0)))))))))))))))) (gS rfl (gS rfl (gS rfl (gS rfl (gS rfl (gS rfl (gS rfl (gS rfl (gS rfl (gS rfl (gS rfl (gS rfl (gS rfl (gS rfl (gS rfl g0))))))))))))))) g0 (fun g => ?_)
            refine c_false (et g0 rfl) rfl ?_
            refine c_skip ?_
            refine hK4 _ _ ?_
            refine fg3 0 3 5 (gS rfl (gS rfl (gS rfl g0))) (gS rfl (gS rfl g0)) (gS rfl g0) (fun g => ?_)
            refine c_seq (fun K9 hK9 => ?_)
            exact (by
              refine c_region ?_
              refine l_step (y_moveV (et g0 rfl)) ?_
              refine l_step (y_conv Hvaa.underlying3 Hvaa.underlying5 (et g0 rfl) (wrapU_id uk8 ?_)) ?_
              omega
              refine l_step (y_fld fld_71_1 (et (gS rfl (gS rfl (gS rfl g0))) rfl)) ?_
              refine l_effN (e_store sz_5 (et g0 rfl) (cellsV (et (gS rfl g0) rfl) rfl) rfl (by first | exact one_bL _ | exact one_uL _ | (intro v hv; simp at hv; subst hv; rfl)) k2 (by (rw [List.size_toArray, fcv_len rfl]; decide))) (fun v10 w10 h10 => ?_)
              obtain ⟨rfl, x10⟩ := h10
              replace hX := hX.ch x10.ch (by first | omega | (intro b hb; first | (subst hb; first | exact ⟨by omega, fun hh => by have := hfz.lt hh; omega, by omega⟩ | exact ⟨by omega, by assumption, by omega⟩) | (rcases hb with hb | hb <;> (subst hb; first | exact ⟨by omega, fun hh => by have := hfz.lt hh; omega, by omega⟩ | exact ⟨by omega, by assumption, by omega⟩))))
              replace k2 := x10.blk
              replace U := U.st x10 (.inr f2)
              rw [show 0 + 1 = 1 from rfl, fcv_dp] at k2
              refine l_nil ?_
              refine hK9 _ _ ?_
              refine fg3 0 3 5 (gS rfl (gS rfl (gS rfl (gS rfl (gS rfl g0))))) (gS rfl (gS rfl (gS rfl (gS rfl g0)))) (gS rfl (gS rfl (gS rfl g0))) (fun g => ?_)
              refine c_seq (fun K11 hK11 => ?_)
              exact (by
                refine c_region ?_
                refine l_step (y_moveV (et g0 rfl)) ?_
                refine l_step (y_mul (et g0 rfl) rfl (mulIN (y := 64) ?_)) ?_
                omega
                refine l_step (y_conv Hvaa.underlying3 Hvaa.underlying67 (et g0 rfl) (wrapU_id uk16 ?_)) ?_
                omega
                refine l_step (y_fld fld_71_5 (et (gS rfl (gS rfl (gS rfl (gS rfl g0)))) rfl)) ?_
                refine l_effN (e_store sz_67 (et g0 rfl) (cellsV (et (gS rfl g0) rfl) rfl) rfl (by first | exact one_bL _ | exact one_uL _ | (intro v hv; simp at hv; subst hv; rfl)) k2 (by (rw [List.size_toArray, fcv_len rfl]; decide))) (fun v12 w12 h12 => ?_)
                obtain ⟨rfl, x12⟩ := h12
                replace hX := hX.ch x12.ch (by first | omega | (intro b hb; first | (subst hb; first | exact ⟨by omega, fun hh => by have := hfz.lt hh; omega, by omega⟩ | exact ⟨by omega, by assumption, by omega⟩) | (rcases hb with hb | hb <;> (subst hb; first | exact ⟨by omega, fun hh => by have := hfz.lt hh; omega, by omega⟩ | exact ⟨by omega, by assumption, by omega⟩))))
                replace k2 := x12.blk
                replace U := U.st x12 (.inr f2)
                rw [show 0 + 5 = 5 from rfl, fcv_sb, Nat.mul_comm s.frames.length 64] at k2
                refine l_nil ?_
                refine hK11 _ _ ?_
                refine fg3 0 3 5 (gS rfl (gS rfl (gS rfl (gS rfl (gS rfl (gS rfl g0)))))) (gS rfl (gS rfl (gS rfl (gS rfl (gS rfl g0))))) (gS rfl (gS rfl (gS rfl (gS rfl g0)))) (fun g => ?_)
                refine c_seq (fun K13 hK13 => ?_)
                exact (by
                  refine c_region ?_
                  refine l_step (y_fld fld_71_12 (et (gS rfl g0) rfl)) ?_
                  refine l_step (y_load1 one_38 (et g0 rfl) (at1 (k2.cell fcv_row.2.2.2))) ?_
                  refine l_eff (e_callV cal_177 (aC (et g0 rfl) aN) (m_scan _ (hbc.wv hX.ex.vl.fz) (Nat.le_refl _) hck)) (fun v14 w14 h14 => ?_)
                  obtain ⟨ds, rfl, hds, u14⟩ := h14
                  replace k2 := k2.up u14
                  replace hX := hX.up u14
                  replace U := U.tr u14
                  refine l_step (y_fld fld_71_14 (et (gS rfl (gS rfl (gS rfl (gS rfl g0)))) rfl)) ?_
                  refine l_effN (e_store sz_69 (et g0 rfl) (cellsV (et (gS rfl g0) rfl) rfl) (by rw [length_uL, hds.len]) (by exact one_uL _) k2 (by (rw [List.size_toArray, fcv_len rfl]; decide))) (fun v15 w15 h15 => ?_)
                  obtain ⟨rfl, x15⟩ := h15
                  replace hX := hX.ch x15.ch (by first | omega | (intro b hb; first | (subst hb; first | exact ⟨by omega, fun hh => by have := hfz.lt hh; omega, by omega⟩ | exact ⟨by omega, by assumption, by omega⟩) | (rcases hb with hb | hb <;> (subst hb; first | exact ⟨by omega, fun hh => by have := hfz.lt hh; omega, by omega⟩ | exact ⟨by omega, by assumption, by omega⟩))))
                  replace k2 := x15.blk
                  replace U := U.st x15 (.inr f2)
                  rw [show 0 + 55 = 55 from rfl, fcv_ds rfl hds.len] at k2
                  refine l_nil ?_
                  refine hK13 _ _ ?_
                  refine fg3 0 3 5 (gS rfl (gS rfl (gS rfl (gS rfl (gS rfl (gS rfl g0)))))) (gS rfl (gS rfl (gS rfl (gS rfl (gS rfl g0))))) (gS rfl (gS rfl (gS rfl (gS rfl g0)))) (fun g => ?_)
                  refine c_seq (fun K16 hK16 => ?_)
                  exact (by
                    refine c_region ?_
                    refine l_step (y_moveV (et (gS rfl (gS rfl g0)) rfl)) ?_
                    refine l_step (y_nil (et g0 rfl)) ?_
                    refine l_step (y_fld fld_75_0 (et g0 rfl)) ?_
                    refine l_step (y_load1 one_59 (et g0 rfl) (at1 (hX.ex.vl.c1 hX.ex.lx.pS rfl))) ?_
                    refine l_eff (e_callV cal_178 (aC (et g0 rfl) aN) (v_snap hX.ex.vl hX.ex.ok hro2)) (fun v17 w17 h17 => ?_)
                    obtain ⟨rfl, cs17, t17⟩ := h17
                    have nc2 := (t17.col b2 k2.lt).trans nc2
                    have kp17 := hX.ex.vl.kC
                    have hlm1 : cs17[2407]? = some (.int .u64 (s.limit : Nat)) := by rw [t17.out.get _ (by omega)]; exact hlm
                    have hmd1 : RowIn cs17 2415 (bL (be 20 s.made)) := t17.out.row hmd (by rw [length_bL, length_be]; omega)
                    replace k2 := k2.ch t17.go.ch (by intro hm; (have e0 := hm); omega)
                    replace hX := hX.snapC t17 hro2 hmk
                    replace U := U.cc t17.go.ch (by intro b hb; exact .inl trivial)
                    refine l_step (y_fld fld_71_8 (et (gS rfl (gS rfl (gS rfl (gS rfl (gS rfl (gS rfl g0)))))) rfl)) ?_
                    refine l_effN (e_store sz_21 (et g0 rfl) (cellsV (et (gS rfl g0) rfl) rfl) rfl (by first | exact one_bL _ | exact one_uL _ | (intro v hv; simp at hv; subst hv; rfl)) k2 (by (rw [List.size_toArray, fcv_len hds.len]; decide))) (fun v18 w18 h18 => ?_)
                    obtain ⟨rfl, x18⟩ := h18
                    replace hX := hX.ch x18.ch (by first | omega | (intro b hb; first | (subst hb; first | exact ⟨by omega, fun hh => by have := hfz.lt hh; omega, by omega⟩ | exact ⟨by omega, by assumption, by omega⟩) | (rcases hb with hb | hb <;> (subst hb; first | exact ⟨by omega, fun hh => by have := hfz.lt hh; omega, by omega⟩ | exact ⟨by omega, by assumption, by omega⟩))))
                    replace k2 := x18.blk
                    replace U := U.st x18 (.inr f2)
                    rw [show 0 + 8 = 8 from rfl, fcv_sn] at k2
                    refine l_nil ?_
                    refine hK16 _ _ ?_
                    refine fg3 0 3 5 (gS rfl (gS rfl (gS rfl (gS rfl (gS rfl (gS rfl (gS rfl (gS rfl g0)))))))) (gS rfl (gS rfl (gS rfl (gS rfl (gS rfl (gS rfl (gS rfl g0))))))) (gS rfl (gS rfl (gS rfl (gS rfl (gS rfl (gS rfl g0)))))) (fun g => ?_)
                    refine c_seq (fun K19 hK19 => ?_)
                    exact (by
                      refine c_region ?_
                      refine l_step (y_fld fld_71_8 (et (gS rfl g0) rfl)) ?_
                      refine l_step (y_load1 one_21 (et g0 rfl) (at1 (k2.cell rfl))) ?_
                      refine l_step (y_geq (et g0 rfl) rfl) ?_
                      refine l_step (y_moveV (et g0 rfl)) ?_
                      refine gsplitL (i := 48) g0 (fun q20 => ?_) (fun q20 => ?_)
                      · skip
                        refine l_gstep (j := 3) (t := 48) (by exact rfl) (by exact rfl) (et g0 rfl) (by decide) (y_moveV (et (gS rfl (gS rfl (gS rfl (gS rfl (gS rfl (gS rfl (gS rfl g0))))))) rfl)) ?_
                        refine l_gstep (j := 3) (t := 48) (by exact rfl) (by exact rfl) (et (gS rfl g0) rfl) (by decide) (y_nil (et g0 rfl)) ?_
                        refine l_gstep (j := 3) (t := 48) (by exact rfl) (by exact rfl) (et (gS rfl (gS rfl g0)) rfl) (by decide) (y_fld fld_75_1 (et g0 rfl)) ?_
                        refine l_geff (j := 3) (t := 48) (by exact rfl) (by exact rfl) (et (gS rfl (gS rfl (gS rfl g0))) rfl) rfl (e_callV cal_179 (aC (et g0 rfl) aN) (hX.enterC hm6)) (fun v21 w21 h21 => ?_)
                        obtain ⟨rfl, cs21, y21, o21, x21⟩ := h21
                        have hlm2 : cs21[2407]? = some (.int .u64 (s.limit : Nat)) := by rw [o21.get _ (by omega)]; exact hlm1
                        have hmd2 : RowIn cs21 2415 (bL (be 20 s.made)) := o21.row hmd1 (by omega)
                        replace k2 := k2.ch x21 (by intro hm; first | omega | (subst hm; omega))
                        replace hX := y21
                        replace U := U.cc x21 (by intro b hb; exact .inl trivial)
                        refine l_step (y_pickT (et (gS rfl (gS rfl (gS rfl (gS rfl g0)))) rfl) (et g0 rfl)) ?_
                        refine l_step (y_assignV (et g0 rfl)) ?_
                        refine l_nil ?_
                        refine hK19 _ _ ?_
                        refine fg4 0 3 5 6 (gS rfl (gS rfl (gS rfl (gS rfl (gS rfl (gS rfl (gS rfl (gS rfl (gS rfl (gS rfl (gS rfl (gS rfl (gS rfl g0))))))))))))) (gS rfl (gS rfl (gS rfl (gS rfl (gS rfl (gS rfl (gS rfl (gS rfl (gS rfl (gS rfl (gS rfl (gS rfl g0)))))))))))) (gS rfl (gS rfl (gS rfl (gS rfl (gS rfl (gS rfl (gS rfl (gS rfl (gS rfl (gS rfl (gS rfl g0))))))))))) g0 (fun g => ?_)
                        refine c_seq (fun K22 hK22 => ?_)
                        exact (by
                          refine c_draw Up 6 [(0, true), (1, true), (2, true), (3, true), (4, true), (5, true), (6, false)] (by kernel_rfl) (fun w23 hu => ⟨Up.refl _, ?_⟩)
                          replace k2 := k2.up hu
                          replace hX := hX.up hu
                          replace U := U.tr hu
                          have SU := Up.refl w23
                          refine p_step (by exact rfl) (y_moveV (et (gS rfl (gS rfl (gS rfl g0))) rfl)) ?_
                          refine p_step (by exact rfl) (y_moveV (et (gS rfl (gS rfl g0)) rfl)) ?_
                          refine p_step (by exact rfl) (y_loadB agg_71 sz_71 (et (gS rfl (gS rfl (gS rfl (gS rfl g0)))) rfl) (by rw [List.size_toArray, fcv_len hds.len]) (atSB k2)) ?_
                          refine p_step (by exact rfl) (y_nil (et (gS rfl (gS rfl g0)) rfl)) ?_
                          refine p_step (by exact rfl) (y_fld fld_75_3 (et g0 rfl)) ?_
                          refine p_step (by exact rfl) (y_idxA Hvaa.underlying72 sz_71 (et g0 rfl) (et (gS rfl (gS rfl (gS rfl g0))) rfl) ?_ ?_) ?_
                          omega
                          omega
                          refine p_effN (by exact rfl) (e_store sz_71 (et g0 rfl) (cellsV (et (gS rfl (gS rfl (gS rfl g0))) rfl) rfl) (fcv_len hds.len) fcv_one hX.ex.vl.kC (by rw [hX.ex.vl.size]; omega)) (fun v24 w24 h24 => ?_)
                          obtain ⟨rfl, x24⟩ := h24
                          have hv24 := hX.stFr (by omega) h6 (fcv_len hds.len) (by omega) x24
                          have hrow : RowIn (spl cs21 _ (fcv u (.slice ca u.code.length cc) (.slice ia u.input.length ic) s.frames.length (64 * s.frames.length) V.marks.length ds)) (1803 + 65 * s.frames.length) (fcv u (.slice ca u.code.length cc) (.slice ia u.input.length ic) s.frames.length (64 * s.frames.length) V.marks.length ds) := (RowIn.puts (o := 1803 + (((s.frames.length : Nat) : Int)).toNat * 65) (by rw [hX.ex.vl.size, fcv_len hds.len]; omega)).cast (by omega)
                          have hlm3 : (spl cs21 (1803 + (((s.frames.length : Nat) : Int)).toNat * 65) (fcv u (.slice ca u.code.length cc) (.slice ia u.input.length ic) s.frames.length (64 * s.frames.length) V.marks.length ds))[2407]? = some (.int .u64 (s.limit : Nat)) := by rw [get_spl_out (by rw [hX.ex.vl.size, fcv_len hds.len]; omega) (by rw [fcv_len hds.len]; omega)]; exact hlm2
                          have hmd3 : RowIn (spl cs21 (1803 + (((s.frames.length : Nat) : Int)).toNat * 65) (fcv u (.slice ca u.code.length cc) (.slice ia u.input.length ic) s.frames.length (64 * s.frames.length) V.marks.length ds)) 2415 (bL (be 20 s.made)) := hmd2.offs (by rw [hX.ex.vl.size, fcv_len hds.len]; omega) (by rw [fcv_len hds.len]; omega)
                          replace k2 := k2.ch x24.ch (by intro hm; first | omega | (subst hm; omega))
                          replace hX := hv24
                          replace U := U.cc x24.ch (by intro b hb; exact .inl trivial)
                          refine ⟨.inl rfl, ?_⟩
                          refine p_nil ?_
                          refine hK22 _ _ ?_
                          refine fg4 0 3 5 6 (gS rfl (gS rfl (gS rfl (gS rfl (gS rfl (gS rfl (gS rfl (gS rfl (gS rfl g0))))))))) (gS rfl (gS rfl (gS rfl (gS rfl (gS rfl (gS rfl (gS rfl (gS rfl g0)))))))) (gS rfl (gS rfl (gS rfl (gS rfl (gS rfl (gS rfl (gS rfl g0))))))) (gS rfl (gS rfl (gS rfl (gS rfl (gS rfl (gS rfl g0)))))) (fun g => ?_)
                          refine c_seq (fun K25 hK25 => ?_)
                          exact (by
                            refine c_region ?_
                            refine l_step (y_moveV (et (gS rfl (gS rfl (gS rfl g0))) rfl)) ?_
                            refine l_step (y_moveV (et (gS rfl (gS rfl g0)) rfl)) ?_
                            refine l_step (y_conv Hvaa.underlying3 Hvaa.underlying73 (et g0 rfl) (topI8 h6)) ?_
                            refine l_step (y_nil (et (gS rfl (gS rfl g0)) rfl)) ?_
                            refine l_step (y_fld fld_75_4 (et g0 rfl)) ?_
                            refine l_effN (e_store sz_73 (et g0 rfl) (cellsV (et (gS rfl (gS rfl g0)) rfl) rfl) rfl (by intro v hv; simp at hv; subst hv; rfl) hX.ex.vl.kC (by rw [hX.ex.vl.size]; omega)) (fun v26 w26 h26 => ?_)
                            obtain ⟨rfl, x26⟩ := h26
                            have hv26 := hX.stTop (u := { u with saved := s.now }) (n9 := V.marks.length) (c' := c' + (if crN u.kind = true then 50 else 0) + (if u.kind ≠ 3 ∧ u.kind ≠ 7 ∧ u.value ≠ 0 then 50 else 0)) (by omega) h6 ⟨hU.kind, hU.ntv, hU.pc, hU.stk, hU.wrd, hU.gas, hU.self, hU.caller, hU.value, hU.code, hU.input, hU.oo, hU.ol, hU.cdig, hU.idig⟩ hst0 (FR.of (u := { u with saved := s.now }) hrow hbc hbi hds) (by rw [← hE.px.va.len]; simp) hfre ⟨hhs, hhc⟩ (by show _ + u.gas ≤ c; omega) x26
                            have hlm4 := (sp1 (v := .int .i8 (s.frames.length : Nat)) (show 2407 ≠ 2258 by decide)).trans hlm3
                            have hmd4 := hmd3.off (v := .int .i8 (s.frames.length : Nat)) (k := 2258) (by omega)
                            replace k2 := k2.ch x26.ch (by intro hm; first | omega | (subst hm; omega))
                            replace hX := hv26
                            replace U := U.cc x26.ch (by intro b hb; exact .inl trivial)
                            refine l_nil ?_
                            refine hK25 _ _ ?_
                            refine fg3 0 3 6 (gS rfl (gS rfl (gS rfl (gS rfl (gS rfl (gS rfl (gS rfl (gS rfl g0)))))))) (gS rfl (gS rfl (gS rfl (gS rfl (gS rfl (gS rfl (gS rfl g0))))))) (gS rfl (gS rfl (gS rfl (gS rfl (gS rfl g0))))) (fun g => ?_)
                            refine c_seq (fun K27 hK27 => ?_)
                            exact (by
                              refine c_region ?_
                              refine l_step (y_moveV (et (gS rfl (gS rfl g0)) rfl)) ?_
                              refine l_step (y_nil (et g0 rfl)) ?_
                              refine l_step (y_fld fld_75_9 (et g0 rfl)) ?_
                              refine l_effN (e_store sz_5 (et g0 rfl) (cellsV rfl rfl) rfl (by intro v hv; simp at hv; subst hv; rfl) hX.ex.vl.kC (by rw [hX.ex.vl.size]; omega)) (fun v28 w28 h28 => ?_)
                              obtain ⟨rfl, x28⟩ := h28
                              have hv28 := hX.stPh hlm4 hmd4 hor x28
                              replace k2 := k2.ch x28.ch (by intro hm; first | omega | (subst hm; omega))
                              replace hX := hv28
                              replace U := U.cc x28.ch (by intro b hb; exact .inl trivial)
                              refine l_nil ?_
                              refine hK27 _ _ ?_
                              refine fg3 0 3 6 (gS rfl (gS rfl (gS rfl (gS rfl (gS rfl g0))))) (gS rfl (gS rfl (gS rfl (gS rfl g0)))) (gS rfl (gS rfl (gS rfl g0))) (fun g => ?_)
                              refine c_seq (fun K29 hK29 => ?_)
                              exact (by
                                refine c_region ?_
                                refine l_step (y_moveV (et (gS rfl (gS rfl g0)) rfl)) ?_
                                refine l_step (y_nil (et g0 rfl)) ?_
                                refine l_step (y_fld fld_75_5 (et g0 rfl)) ?_
                                refine l_effN (e_store sz_38 (et g0 rfl) (cellsV rfl rfl) rfl (by intro v hv; simp at hv; subst hv; rfl) hX.ex.vl.kC (by rw [hX.ex.vl.size]; omega)) (fun v30 w30 h30 => ?_)
                                obtain ⟨rfl, x30⟩ := h30
                                have hv30 := hX.stRt (l := []) (by show (1 : Nat) ≠ 2; decide) (BV.nil _) x30
                                replace k2 := k2.ch x30.ch (by intro hm; first | omega | (subst hm; omega))
                                replace hX := hv30
                                replace U := U.cc x30.ch (by intro b hb; exact .inl trivial)
                                obtain ⟨s1, hs1⟩ : ∃ s1 : YSt, s1 = { s with frames := s.frames ++ [{ u with saved := s.now }], phase := 1, ret := [] } := ⟨_, rfl⟩
                                replace hX := hX.reS hs1
                                have hnw1 := hX.ex.vl.new
                                have hph1 : s1.phase = 1 := by rw [hs1]
                                have hsf1 : s1.frames = s.frames ++ [{ u with saved := s.now }] := by rw [hs1]
                                have hap1 : s1.applied ≤ 4 := by rw [hs1]; exact hap
                                have hro1 := hX.ex.room hap1
                                have hnow1 : s1.now = s.now := by rw [hs1]
                                refine l_nil ?_
                                refine hK29 _ _ ?_
                                refine fg3 0 3 6 (gS rfl (gS rfl (gS rfl (gS rfl (gS rfl g0))))) (gS rfl (gS rfl (gS rfl (gS rfl g0)))) (gS rfl (gS rfl (gS rfl g0))) (fun g => ?_)
                                refine c_seq (fun K31 hK31 => ?_)
                                refine c_seq (fun K32 hK32 => ?_)
                                exact (by
                                  refine c_region ?_
                                  refine l_step (y_moveV (et g0 rfl)) ?_
                                  refine l_step (y_moveV (et g0 rfl)) ?_
                                  refine gsplitL (i := 72) g0 (fun q33 => ?_) (fun q33 => ?_)
                                  · skip
                                    refine l_gstep (j := 1) (t := 72) (by exact rfl) (by exact rfl) (et g0 rfl) (by decide) (y_fld fld_71_0 (et (gS rfl (gS rfl (gS rfl (gS rfl g0)))) rfl)) ?_
                                    refine l_gstep (j := 1) (t := 72) (by exact rfl) (by exact rfl) (et (gS rfl g0) rfl) (by decide) (y_load1 one_5 (et g0 rfl) (at1 (k2.cell rfl))) ?_
                                    refine l_geff (j := 1) (t := 72) (by exact rfl) (by exact rfl) (et (gS rfl (gS rfl g0)) rfl) rfl (e_callV cal_180 (aC (et g0 rfl) aN) (mach_creates _ _)) (fun v34 w34 h34 => ?_)
                                    obtain ⟨rfl, u34⟩ := h34
                                    replace k2 := k2.up u34
                                    replace hX := hX.up u34
                                    replace U := U.tr u34
                                    refine l_step (y_pickT (et (gS rfl (gS rfl (gS rfl g0))) rfl) (et g0 rfl)) ?_
                                    refine l_nil ?_
                                    refine hK32 _ _ ?_
                                    refine fg4 0 3 6 76 (gS rfl (gS rfl (gS rfl (gS rfl (gS rfl (gS rfl (gS rfl (gS rfl (gS rfl g0))))))))) (gS rfl (gS rfl (gS rfl (gS rfl (gS rfl (gS rfl (gS rfl (gS rfl g0)))))))) (gS rfl (gS rfl (gS rfl (gS rfl (gS rfl (gS rfl (gS rfl g0))))))) g0 (fun g => ?_)
                                    refine c_cond (et g0 rfl) (fun cB2 => ?_) (fun cB2 => ?_)
                                    · skip
                                      
                                      rw [if_pos cB2] at hX
                                      exact (by
                                        refine c_draw (SX _ bc) 17 [(0, true), (1, true), (2, true), (3, true), (4, true), (5, true), (6, false), (7, true), (8, true), (9, true), (10, true), (11, true), (12, true), (13, true), (14, false), (15, true), (16, true)] (by kernel_rfl) (fun w36 hu => ⟨SX.refl (hX.up hu), ?_⟩)
                                        replace k2 := k2.up hu
                                        replace hX := hX.up hu
                                        replace U := U.tr hu
                                        have SU := SX.refl hX
                                        have cq := cq_refl hX
                                        have hX_s := hX
                                        have k2_s := k2
                                        refine p_step (by exact rfl) (y_moveV (et (gS rfl (gS rfl (gS rfl g0))) rfl)) ?_
                                        refine p_step (by exact rfl) (y_nil (et g0 rfl)) ?_
                                        refine p_step (by exact rfl) (y_fld fld_75_0 (et g0 rfl)) ?_
                                        refine p_step (by exact rfl) (y_load1 one_59 (et g0 rfl) (atXP)) ?_
                                        refine p_step (by exact rfl) (y_fld fld_71_9 (et (gS rfl (gS rfl (gS rfl (gS rfl (gS rfl (gS rfl g0)))))) rfl)) ?_
                                        refine p_step (by exact rfl) (y_loadR agg_25 sz_25 (et g0 rfl) (by rw [length_bL, length_be]) (atXR (k2_s.row fcv_row.1) (by omega))) ?_
                                        refine p_eff (by exact rfl) (e_callV cal_96 (aC (et (gS rfl (gS rfl g0)) rfl) (aC (et g0 rfl) (aC (v := .int .u64 ((1 : Nat) : Int)) rfl aN))) (v_putNonce hX.ex.vl hX.ex.ok u.self hU.self 1 (by decide) 0 (.inl ⟨hhs, rfl⟩) hro1.j)) (fun v37 w37 h37 => ?_)
                                        obtain ⟨rfl, cl37, cs37, V37, t37, ok37, js37⟩ := h37
                                        have nc2 := (t37.col b2 k2.lt).trans nc2
                                        have kp37 := hX.ex.vl.kC
                                        replace k2 := k2.ch t37.go.ch (by intro hm; (have e0 := hm); omega)
                                        replace hX := hX.vt0 t37 ok37 js37 (ay_nonce s1.now u.self 1) (fun _ => rfl) (c' := c' + 25 + (if u.kind ≠ 3 ∧ u.kind ≠ 7 ∧ u.value ≠ 0 then 50 else 0)) (by omega)
                                        replace U := U.cc t37.go.ch (by intro b hb; exact .inl trivial)
                                        obtain ⟨s2, hs2⟩ : ∃ s2 : YSt, s2 = { s1 with now := { s1.now with accts := putA s1.now.accts (setNon (acctAt s1.now.accts u.self) 1) } } := ⟨_, rfl⟩
                                        replace hX := hX.reS hs2
                                        have hhs2 := js37.ha _ hhs
                                        have hhc2 := js37.ha _ hhc
                                        have hap2 : s2.applied ≤ 4 := by rw [hs2]; exact hap1
                                        have hro2 := hX.ex.room hap2
                                        have cq9 := SU.ch.size
                                        replace SU := SU.xc t37.go.ch (hX.ex.vl.c1 hX.ex.lx.pS rfl) (by intro b hlt hb; have h9 := cq b hlt; have e0 := hb; first | exact hb.elim | omega | (dsimp only at e0; omega))
                                        replace cq := cq_step cq t37.col cq9
                                        refine ⟨.inr SU, ?_⟩
                                        exact (by
                                          refine p_step (by exact rfl) (y_moveV (et g0 rfl)) ?_
                                          refine gsplitP (i := 84) g0 (fun q38 => ?_) (fun q38 => ?_)
                                          · skip
                                            refine p_gstep (j := 7) (t := 84) (by exact rfl) (by exact rfl) (by exact rfl) (et g0 rfl) rfl (y_moveV (et (gS rfl (gS rfl (gS rfl (gS rfl (gS rfl (gS rfl (gS rfl (gS rfl (gS rfl (gS rfl (gS rfl (gS rfl g0)))))))))))) rfl)) ?_
                                            refine p_gstep (j := 7) (t := 84) (by exact rfl) (by exact rfl) (by exact rfl) (et (gS rfl g0) rfl) rfl (y_nil (et g0 rfl)) ?_
                                            refine p_gstep (j := 7) (t := 84) (by exact rfl) (by exact rfl) (by exact rfl) (et (gS rfl (gS rfl g0)) rfl) rfl (y_fld fld_75_0 (et g0 rfl)) ?_
                                            refine p_gstep (j := 7) (t := 84) (by exact rfl) (by exact rfl) (by exact rfl) (et (gS rfl (gS rfl (gS rfl g0))) rfl) rfl (y_load1 one_59 (et g0 rfl) (atXP)) ?_
                                            refine p_gstep (j := 7) (t := 84) (by exact rfl) (by exact rfl) (by exact rfl) (et (gS rfl (gS rfl (gS rfl (gS rfl g0)))) rfl) rfl (y_fld fld_71_9 (et (gS rfl (gS rfl (gS rfl (gS rfl (gS rfl (gS rfl (gS rfl (gS rfl (gS rfl (gS rfl (gS rfl (gS rfl (gS rfl (gS rfl (gS rfl g0))))))))))))))) rfl)) ?_
                                            refine p_gstep (j := 7) (t := 84) (by exact rfl) (by exact rfl) (by exact rfl) (et (gS rfl (gS rfl (gS rfl (gS rfl (gS rfl g0))))) rfl) rfl (y_loadR agg_25 sz_25 (et g0 rfl) (by rw [length_bL, length_be]) (atXR (k2_s.row fcv_row.1) (by omega))) ?_
                                            refine p_geff (j := 7) (t := 84) (by exact rfl) (by exact rfl) (by exact rfl) (et (gS rfl (gS rfl (gS rfl (gS rfl (gS rfl (gS rfl g0)))))) rfl) rfl (e_callV cal_181 (aC (et (gS rfl (gS rfl g0)) rfl) (aC (et g0 rfl) aN)) (v_markMade hX.ex.vl hX.ex.ok u.self hU.self 0 (.inl ⟨hhs2, rfl⟩) hro2.j)) (fun v39 w39 h39 => ?_)
                                            obtain ⟨rfl, cl39, cs39, V39, t39, ok39, js39⟩ := h39
                                            have nc2 := (t39.col b2 k2.lt).trans nc2
                                            have kp39 := hX.ex.vl.kC
                                            replace k2 := k2.ch t39.go.ch (by intro hm; (have e0 := hm); omega)
                                            replace hX := hX.vt0 t39 ok39 js39 (ay_made s2.now u.self) (fun _ => rfl) (c' := c' + (if u.kind ≠ 3 ∧ u.kind ≠ 7 ∧ u.value ≠ 0 then 50 else 0)) (by omega)
                                            replace U := U.cc t39.go.ch (by intro b hb; exact .inl trivial)
                                            obtain ⟨s3, hs3⟩ : ∃ s3 : YSt, s3 = { s2 with now := { s2.now with made := withA s2.now.made u.self } } := ⟨_, rfl⟩
                                            replace hX := hX.reS hs3
                                            have hhs3 := js39.ha _ hhs2
                                            have hhc3 := js39.ha _ hhc2
                                            have cq9 := SU.ch.size
                                            replace SU := SU.xc t39.go.ch (hX.ex.vl.c1 hX.ex.lx.pS rfl) (by intro b hlt hb; have h9 := cq b hlt; have e0 := hb; first | exact hb.elim | omega | (dsimp only at e0; omega))
                                            replace cq := cq_step cq t39.col cq9
                                            refine ⟨.inr SU, ?_⟩
                                            refine p_step (by exact rfl) (y_pickT (et (gS rfl (gS rfl (gS rfl (gS rfl (gS rfl (gS rfl (gS rfl g0))))))) rfl) (et g0 rfl)) ?_
                                            refine p_step (by exact rfl) (y_assignV (et g0 rfl)) ?_
                                            refine p_nil ?_
                                            refine hK31 _ _ ?_
                                            refine fg3 0 3 6 (gS rfl (gS rfl (gS rfl (gS rfl (gS rfl (gS rfl (gS rfl (gS rfl (gS rfl (gS rfl (gS rfl (gS rfl (gS rfl (gS rfl (gS rfl (gS rfl (gS rfl (gS rfl (gS rfl (gS rfl (gS rfl g0))))))))))))))))))))) (gS rfl (gS rfl (gS rfl (gS rfl (gS rfl (gS rfl (gS rfl (gS rfl (gS rfl (gS rfl (gS rfl (gS rfl (gS rfl (gS rfl (gS rfl (gS rfl (gS rfl (gS rfl (gS rfl (gS rfl g0)))))))))))))))))))) g0 (fun g => ?_)
                                            refine c_seq (fun K40 hK40 => ?_)
                                            refine c_seq (fun K41 hK41 => ?_)
                                            exact (by
                                              refine c_region ?_
                                              refine l_step (y_moveV (et g0 rfl)) ?_
                                              refine l_step (y_moveV (et g0 rfl)) ?_
                                              refine gsplitL (i := 94) g0 (fun q42 => ?_) (fun q42 => ?_)
                                              · skip
                                                refine l_gstep (j := 1) (t := 94) (by exact rfl) (by exact rfl) (et g0 rfl) (by decide) (y_fld fld_71_0 (et (gS rfl (gS rfl (gS rfl (gS rfl g0)))) rfl)) ?_
                                                refine l_gstep (j := 1) (t := 94) (by exact rfl) (by exact rfl) (et (gS rfl g0) rfl) (by decide) (y_load1 one_5 (et g0 rfl) (at1 (k2.cell rfl))) ?_
                                                refine l_gstep (j := 1) (t := 94) (by exact rfl) (by exact rfl) (et (gS rfl (gS rfl g0)) rfl) (by decide) (y_neq (et g0 rfl) rfl) ?_
                                                refine l_step (y_pickT (et (gS rfl (gS rfl (gS rfl g0))) rfl) (et g0 rfl)) ?_
                                                refine l_step (y_moveV (et g0 rfl)) ?_
                                                refine gsplitL (i := 99) g0 (fun q43 => ?_) (fun q43 => ?_)
                                                · skip
                                                  have hk3 : u.kind ≠ 3 := by have := of_decide_eq_true q43; omega
                                                  refine l_gstep (j := 6) (t := 99) (by exact rfl) (by exact rfl) (et g0 rfl) (by decide) (y_fld fld_71_0 (et (gS rfl (gS rfl (gS rfl (gS rfl (gS rfl (gS rfl (gS rfl (gS rfl (gS rfl (gS rfl g0)))))))))) rfl)) ?_
                                                  refine l_gstep (j := 6) (t := 99) (by exact rfl) (by exact rfl) (et (gS rfl g0) rfl) (by decide) (y_load1 one_5 (et g0 rfl) (at1 (k2.cell rfl))) ?_
                                                  refine l_gstep (j := 6) (t := 99) (by exact rfl) (by exact rfl) (et (gS rfl (gS rfl g0)) rfl) (by decide) (y_neq (et g0 rfl) rfl) ?_
                                                  refine l_step (y_pickT (et (gS rfl (gS rfl (gS rfl g0))) rfl) (et g0 rfl)) ?_
                                                  refine l_nil ?_
                                                  refine hK41 _ _ ?_
                                                  refine fg4 0 3 6 103 (gS rfl (gS rfl (gS rfl (gS rfl (gS rfl (gS rfl (gS rfl (gS rfl (gS rfl (gS rfl (gS rfl (gS rfl (gS rfl (gS rfl (gS rfl g0))))))))))))))) (gS rfl (gS rfl (gS rfl (gS rfl (gS rfl (gS rfl (gS rfl (gS rfl (gS rfl (gS rfl (gS rfl (gS rfl (gS rfl (gS rfl g0)))))))))))))) (gS rfl (gS rfl (gS rfl (gS rfl (gS rfl (gS rfl (gS rfl (gS rfl (gS rfl (gS rfl (gS rfl (gS rfl (gS rfl g0))))))))))))) g0 (fun g => ?_)
                                                  refine c_cond (et g0 rfl) (fun cB3 => ?_) (fun cB3 => ?_)
                                                  · skip
                                                    
                                                    have hk7 : u.kind ≠ 7 := by have := of_decide_eq_true cB3; omega
                                                    exact (by
                                                      refine c_region ?_
                                                      refine l_step (y_moveV (et (gS rfl (gS rfl (gS rfl g0))) rfl)) ?_
                                                      refine l_step (y_fld fld_71_10 (et (gS rfl (gS rfl (gS rfl g0))) rfl)) ?_
                                                      refine l_step (y_loadR agg_25 sz_25 (et g0 rfl) (by rw [length_bL, length_be]) (at1R (k2.row fcv_row.2.1))) ?_
                                                      refine l_step (y_fld fld_71_9 (et (gS rfl (gS rfl (gS rfl (gS rfl (gS rfl g0))))) rfl)) ?_
                                                      refine l_step (y_loadR agg_25 sz_25 (et g0 rfl) (by rw [length_bL, length_be]) (at1R (k2.row fcv_row.1))) ?_
                                                      refine l_step (y_fld fld_71_11 (et (gS rfl (gS rfl (gS rfl (gS rfl (gS rfl (gS rfl (gS rfl g0))))))) rfl)) ?_
                                                      refine l_step (y_loadR agg_65 sz_65 (et g0 rfl) rfl (at1R (k2.row fcv_row.2.2.1))) ?_
                                                      have hsf3 : s3.frames = s.frames ++ [{ u with saved := s.now }] := by rw [hs3, hs2, hs1]
                                                      have hph3 : s3.phase = 1 := by rw [hs3, hs2, hs1]
                                                      have hap3 : s3.applied ≤ 4 := by rw [hs3, hs2, hs1]; exact hap
                                                      have hac3 : s3.now.accts = entA1 s.now u := by rw [hs3, hs2, hs1, entA1, if_pos cB2]
                                                      refine l_eff (e_callV cal_182 (aC (et (gS rfl (gS rfl (gS rfl (gS rfl (gS rfl (gS rfl g0)))))) rfl) (aC (et (gS rfl (gS rfl (gS rfl (gS rfl g0)))) rfl) (aC (et (gS rfl (gS rfl g0)) rfl) (aC (et g0 rfl) aN)))) (m_move hX.ex hsf3 hph3 u.caller u.self u.value hU.caller hU.self hU.value (c' := c') hap3 (by split <;> omega) (fun h0 => by rw [if_pos ⟨hk3, hk7, h0⟩]; omega) hhc3 hhs3 (by rw [hac3]; exact hle hk3 hk7) (by rw [hac3]; exact hov hk3 hk7))) (fun v45 w45 h45 => ?_)
                                                      obtain ⟨rfl, cl45, cs45, V45, y45⟩ := h45
                                                      have nc2 := (y45.et.col b2 k2.lt).trans nc2
                                                      have kp45 := hX.ex.vl.kC
                                                      replace k2 := k2.ch y45.et.go.ch (by intro hm; (have e0 := hm); omega)
                                                      replace hX := hX.trans y45
                                                      replace U := U.cc y45.et.go.ch (by intro b hb; exact .inl trivial)
                                                      refine l_step (y_assignV (et g0 rfl)) ?_
                                                      refine l_nil ?_
                                                      refine hK40 _ _ ?_
                                                      refine fg2 0 6 (gS rfl (gS rfl (gS rfl (gS rfl (gS rfl (gS rfl (gS rfl (gS rfl (gS rfl (gS rfl (gS rfl (gS rfl g0)))))))))))) g0 (fun g => ?_)
                                                      refine c_seq (fun K46 hK46 => ?_)
                                                      refine c_seq (fun K47 hK47 => ?_)
                                                      exact (by
                                                        refine c_region ?_
                                                        refine l_step (y_moveV (et g0 rfl)) ?_
                                                        refine l_step (y_not (et g0 rfl)) ?_
                                                        refine l_nil ?_
                                                        refine hK47 _ _ ?_
                                                        refine fg3 0 6 113 (gS rfl (gS rfl (gS rfl g0))) (gS rfl (gS rfl g0)) g0 (fun g => ?_)
                                                        refine c_false (et g0 rfl) (by rfl) ?_
                                                        refine c_skip ?_
                                                        refine hK46 _ _ ?_
                                                        refine fg1 6 (gS rfl g0) (fun g => ?_)
                                                        refine c_seq (fun K49 hK49 => ?_)
                                                        exact (by
                                                          refine c_region ?_
                                                          refine l_step (y_moveV (et g0 rfl)) ?_
                                                          refine l_step (y_assignV (et g0 rfl)) ?_
                                                          refine l_nil ?_
                                                          refine hK49 _ _ ?_
                                                          refine fg1 4 g0 (fun g => ?_)
                                                          refine c_ret ?_
                                                          repeat with_reducible refine then_ret ?_
                                                          refine ret1 rfl (res_tmp (et g0 rfl)) ?_
                                                          rw [hs3, hs2, hs1] at hX
                                                          have e9 : entW s.now u = { s.now with accts := moveA (entA1 s.now u) u.caller u.self u.value, made := withA s.now.made u.self } := by
                                                            unfold entW entA
                                                            rw [if_pos ⟨hk3, hk7⟩, if_pos cB2]
                                                          have e8 : ({ entY s u with phase := 1 } : YSt) = { s with now := entW s.now u, ret := [], frames := s.frames ++ [{ u with saved := s.now }], phase := 1 } := rfl
                                                          rw [e8, e9, entA1, if_pos cB2]
                                                          exact ⟨rfl, _, _, _, hX⟩)))
                                                  · skip
                                                    
                                                    have hk7 : u.kind = 7 := by have := of_decide_eq_false cB3; omega
                                                    refine c_skip ?_
                                                    refine hK40 _ _ ?_
                                                    refine fg2 0 6 (gS rfl (gS rfl (gS rfl g0))) (gS rfl g0) (fun g => ?_)
                                                    refine c_seq (fun K50 hK50 => ?_)
                                                    refine c_seq (fun K51 hK51 => ?_)
                                                    exact (by
                                                      refine c_region ?_
                                                      refine l_step (y_moveV (et g0 rfl)) ?_
                                                      refine l_step (y_not (et g0 rfl)) ?_
                                                      refine l_nil ?_
                                                      refine hK51 _ _ ?_
                                                      refine fg3 0 6 113 (gS rfl (gS rfl (gS rfl g0))) (gS rfl (gS rfl g0)) g0 (fun g => ?_)
                                                      refine c_false (et g0 rfl) (by rfl) ?_
                                                      refine c_skip ?_
                                                      refine hK50 _ _ ?_
                                                      refine fg1 6 (gS rfl g0) (fun g => ?_)
                                                      refine c_seq (fun K53 hK53 => ?_)
                                                      exact (by
                                                        refine c_region ?_
                                                        refine l_step (y_moveV (et g0 rfl)) ?_
                                                        refine l_step (y_assignV (et g0 rfl)) ?_
                                                        refine l_nil ?_
                                                        refine hK53 _ _ ?_
                                                        refine fg1 4 g0 (fun g => ?_)
                                                        refine c_ret ?_
                                                        repeat with_reducible refine then_ret ?_
                                                        refine ret1 rfl (res_tmp (et g0 rfl)) ?_
                                                        rw [hs3, hs2, hs1] at hX
                                                        have e9 : entW s.now u = { s.now with accts := entA1 s.now u, made := withA s.now.made u.self } := by
                                                          unfold entW entA
                                                          rw [if_neg (by omega), if_pos cB2]
                                                        have e8 : ({ entY s u with phase := 1 } : YSt) = { s with now := entW s.now u, ret := [], frames := s.frames ++ [{ u with saved := s.now }], phase := 1 } := rfl
                                                        rw [e8, e9, entA1, if_pos cB2]
                                                        exact ⟨rfl, _, _, _, hX.slack (by first | omega | (split <;> omega))⟩))
                                                · skip
                                                  have hk3 : u.kind = 3 := by have := of_decide_eq_false q43; omega
                                                  refine l_gskip (j := 6) (t := 99) (by exact rfl) (by exact rfl) (et g0 rfl) (by decide) (by decide) ?_
                                                  refine l_gskip (j := 6) (t := 99) (by exact rfl) (by exact rfl) (et (gS rfl g0) rfl) (by decide) (by decide) ?_
                                                  refine l_gskip (j := 6) (t := 99) (by exact rfl) (by exact rfl) (et (gS rfl (gS rfl g0)) rfl) (by decide) (by decide) ?_
                                                  refine l_step (y_pickF (et (gS rfl (gS rfl (gS rfl g0))) rfl) rfl) ?_
                                                  refine l_nil ?_
                                                  refine hK41 _ _ ?_
                                                  refine fg4 0 3 6 103 (gS rfl (gS rfl (gS rfl (gS rfl (gS rfl (gS rfl (gS rfl (gS rfl (gS rfl (gS rfl (gS rfl (gS rfl (gS rfl (gS rfl (gS rfl g0))))))))))))))) (gS rfl (gS rfl (gS rfl (gS rfl (gS rfl (gS rfl (gS rfl (gS rfl (gS rfl (gS rfl (gS rfl (gS rfl (gS rfl (gS rfl g0)))))))))))))) (gS rfl (gS rfl (gS rfl (gS rfl (gS rfl (gS rfl (gS rfl (gS rfl (gS rfl (gS rfl (gS rfl (gS rfl (gS rfl g0))))))))))))) g0 (fun g => ?_)
                                                  refine c_false (et g0 rfl) rfl ?_
                                                  refine c_skip ?_
                                                  refine hK40 _ _ ?_
                                                  refine fg2 0 6 (gS rfl (gS rfl (gS rfl g0))) (gS rfl g0) (fun g => ?_)
                                                  refine c_seq (fun K55 hK55 => ?_)
                                                  refine c_seq (fun K56 hK56 => ?_)
                                                  exact (by
                                                    refine c_region ?_
                                                    refine l_step (y_moveV (et g0 rfl)) ?_
                                                    refine l_step (y_not (et g0 rfl)) ?_
                                                    refine l_nil ?_
                                                    refine hK56 _ _ ?_
                                                    refine fg3 0 6 113 (gS rfl (gS rfl (gS rfl g0))) (gS rfl (gS rfl g0)) g0 (fun g => ?_)
                                                    refine c_false (et g0 rfl) (by rfl) ?_
                                                    refine c_skip ?_
                                                    refine hK55 _ _ ?_
                                                    refine fg1 6 (gS rfl g0) (fun g => ?_)
                                                    refine c_seq (fun K58 hK58 => ?_)
                                                    exact (by
                                                      refine c_region ?_
                                                      refine l_step (y_moveV (et g0 rfl)) ?_
                                                      refine l_step (y_assignV (et g0 rfl)) ?_
                                                      refine l_nil ?_
                                                      refine hK58 _ _ ?_
                                                      refine fg1 4 g0 (fun g => ?_)
                                                      refine c_ret ?_
                                                      repeat with_reducible refine then_ret ?_
                                                      refine ret1 rfl (res_tmp (et g0 rfl)) ?_
                                                      rw [hs3, hs2, hs1] at hX
                                                      have e9 : entW s.now u = { s.now with accts := entA1 s.now u, made := withA s.now.made u.self } := by
                                                        unfold entW entA
                                                        rw [if_neg (by omega), if_pos cB2]
                                                      have e8 : ({ entY s u with phase := 1 } : YSt) = { s with now := entW s.now u, ret := [], frames := s.frames ++ [{ u with saved := s.now }], phase := 1 } := rfl
                                                      rw [e8, e9, entA1, if_pos cB2]
                                                      exact ⟨rfl, _, _, _, hX.slack (by first | omega | (split <;> omega))⟩))
                                              · skip
                                                cases q42)
                                          · skip
                                            cases q38))
                                    · skip
                                      
                                      have hcr : ¬ crN u.kind = true := by rw [cB2]; decide
                                      rw [if_neg hcr] at hX
                                      refine c_skip ?_
                                      refine hK31 _ _ ?_
                                      refine fg3 0 3 6 (gS rfl (gS rfl (gS rfl g0))) (gS rfl (gS rfl g0)) (gS rfl g0) (fun g => ?_)
                                      refine c_seq (fun K59 hK59 => ?_)
                                      refine c_seq (fun K60 hK60 => ?_)
                                      exact (by
                                        refine c_region ?_
                                        refine l_step (y_moveV (et g0 rfl)) ?_
                                        refine l_step (y_moveV (et g0 rfl)) ?_
                                        refine gsplitL (i := 94) g0 (fun q61 => ?_) (fun q61 => ?_)
                                        · skip
                                          refine l_gstep (j := 1) (t := 94) (by exact rfl) (by exact rfl) (et g0 rfl) (by decide) (y_fld fld_71_0 (et (gS rfl (gS rfl (gS rfl (gS rfl g0)))) rfl)) ?_
                                          refine l_gstep (j := 1) (t := 94) (by exact rfl) (by exact rfl) (et (gS rfl g0) rfl) (by decide) (y_load1 one_5 (et g0 rfl) (at1 (k2.cell rfl))) ?_
                                          refine l_gstep (j := 1) (t := 94) (by exact rfl) (by exact rfl) (et (gS rfl (gS rfl g0)) rfl) (by decide) (y_neq (et g0 rfl) rfl) ?_
                                          refine l_step (y_pickT (et (gS rfl (gS rfl (gS rfl g0))) rfl) (et g0 rfl)) ?_
                                          refine l_step (y_moveV (et g0 rfl)) ?_
                                          refine gsplitL (i := 99) g0 (fun q62 => ?_) (fun q62 => ?_)
                                          · skip
                                            have hk3 : u.kind ≠ 3 := by have := of_decide_eq_true q62; omega
                                            refine l_gstep (j := 6) (t := 99) (by exact rfl) (by exact rfl) (et g0 rfl) (by decide) (y_fld fld_71_0 (et (gS rfl (gS rfl (gS rfl (gS rfl (gS rfl (gS rfl (gS rfl (gS rfl (gS rfl (gS rfl g0)))))))))) rfl)) ?_
                                            refine l_gstep (j := 6) (t := 99) (by exact rfl) (by exact rfl) (et (gS rfl g0) rfl) (by decide) (y_load1 one_5 (et g0 rfl) (at1 (k2.cell rfl))) ?_
                                            refine l_gstep (j := 6) (t := 99) (by exact rfl) (by exact rfl) (et (gS rfl (gS rfl g0)) rfl) (by decide) (y_neq (et g0 rfl) rfl) ?_
                                            refine l_step (y_pickT (et (gS rfl (gS rfl (gS rfl g0))) rfl) (et g0 rfl)) ?_
                                            refine l_nil ?_
                                            refine hK60 _ _ ?_
                                            refine fg4 0 3 6 103 (gS rfl (gS rfl (gS rfl (gS rfl (gS rfl (gS rfl (gS rfl (gS rfl (gS rfl (gS rfl (gS rfl (gS rfl (gS rfl (gS rfl (gS rfl g0))))))))))))))) (gS rfl (gS rfl (gS rfl (gS rfl (gS rfl (gS rfl (gS rfl (gS rfl (gS rfl (gS rfl (gS rfl (gS rfl (gS rfl (gS rfl g0)))))))))))))) (gS rfl (gS rfl (gS rfl (gS rfl (gS rfl (gS rfl (gS rfl (gS rfl (gS rfl (gS rfl (gS rfl (gS rfl (gS rfl g0))))))))))))) g0 (fun g => ?_)
                                            refine c_cond (et g0 rfl) (fun cB3 => ?_) (fun cB3 => ?_)
                                            · skip
                                              
                                              have hk7 : u.kind ≠ 7 := by have := of_decide_eq_true cB3; omega
                                              exact (by
                                                refine c_region ?_
                                                refine l_step (y_moveV (et (gS rfl (gS rfl (gS rfl g0))) rfl)) ?_
                                                refine l_step (y_fld fld_71_10 (et (gS rfl (gS rfl (gS rfl g0))) rfl)) ?_
                                                refine l_step (y_loadR agg_25 sz_25 (et g0 rfl) (by rw [length_bL, length_be]) (at1R (k2.row fcv_row.2.1))) ?_
                                                refine l_step (y_fld fld_71_9 (et (gS rfl (gS rfl (gS rfl (gS rfl (gS rfl g0))))) rfl)) ?_
                                                refine l_step (y_loadR agg_25 sz_25 (et g0 rfl) (by rw [length_bL, length_be]) (at1R (k2.row fcv_row.1))) ?_
                                                refine l_step (y_fld fld_71_11 (et (gS rfl (gS rfl (gS rfl (gS rfl (gS rfl (gS rfl (gS rfl g0))))))) rfl)) ?_
                                                refine l_step (y_loadR agg_65 sz_65 (et g0 rfl) rfl (at1R (k2.row fcv_row.2.2.1))) ?_
                                                have hsf3 : s1.frames = s.frames ++ [{ u with saved := s.now }] := by rw [hs1]
                                                have hph3 : s1.phase = 1 := by rw [hs1]
                                                have hap3 : s1.applied ≤ 4 := by rw [hs1]; exact hap
                                                have hac3 : s1.now.accts = entA1 s.now u := by rw [hs1, entA1, if_neg hcr]
                                                refine l_eff (e_callV cal_182 (aC (et (gS rfl (gS rfl (gS rfl (gS rfl (gS rfl (gS rfl g0)))))) rfl) (aC (et (gS rfl (gS rfl (gS rfl (gS rfl g0)))) rfl) (aC (et (gS rfl (gS rfl g0)) rfl) (aC (et g0 rfl) aN)))) (m_move hX.ex hsf3 hph3 u.caller u.self u.value hU.caller hU.self hU.value (c' := c') hap3 (by split <;> omega) (fun h0 => by rw [if_pos ⟨hk3, hk7, h0⟩]; omega) hhc hhs (by rw [hac3]; exact hle hk3 hk7) (by rw [hac3]; exact hov hk3 hk7))) (fun v64 w64 h64 => ?_)
                                                obtain ⟨rfl, cl64, cs64, V64, y64⟩ := h64
                                                have nc2 := (y64.et.col b2 k2.lt).trans nc2
                                                have kp64 := hX.ex.vl.kC
                                                replace k2 := k2.ch y64.et.go.ch (by intro hm; (have e0 := hm); omega)
                                                replace hX := hX.trans y64
                                                replace U := U.cc y64.et.go.ch (by intro b hb; exact .inl trivial)
                                                refine l_step (y_assignV (et g0 rfl)) ?_
                                                refine l_nil ?_
                                                refine hK59 _ _ ?_
                                                refine fg2 0 6 (gS rfl (gS rfl (gS rfl (gS rfl (gS rfl (gS rfl (gS rfl (gS rfl (gS rfl (gS rfl (gS rfl (gS rfl g0)))))))))))) g0 (fun g => ?_)
                                                refine c_seq (fun K65 hK65 => ?_)
                                                refine c_seq (fun K66 hK66 => ?_)
                                                exact (by
                                                  refine c_region ?_
                                                  refine l_step (y_moveV (et g0 rfl)) ?_
                                                  refine l_step (y_not (et g0 rfl)) ?_
                                                  refine l_nil ?_
                                                  refine hK66 _ _ ?_
                                                  refine fg3 0 6 113 (gS rfl (gS rfl (gS rfl g0))) (gS rfl (gS rfl g0)) g0 (fun g => ?_)
                                                  refine c_false (et g0 rfl) (by rfl) ?_
                                                  refine c_skip ?_
                                                  refine hK65 _ _ ?_
                                                  refine fg1 6 (gS rfl g0) (fun g => ?_)
                                                  refine c_seq (fun K68 hK68 => ?_)
                                                  exact (by
                                                    refine c_region ?_
                                                    refine l_step (y_moveV (et g0 rfl)) ?_
                                                    refine l_step (y_assignV (et g0 rfl)) ?_
                                                    refine l_nil ?_
                                                    refine hK68 _ _ ?_
                                                    refine fg1 4 g0 (fun g => ?_)
                                                    refine c_ret ?_
                                                    repeat with_reducible refine then_ret ?_
                                                    refine ret1 rfl (res_tmp (et g0 rfl)) ?_
                                                    rw [hs1] at hX
                                                    have e9 : entW s.now u = { s.now with accts := moveA (entA1 s.now u) u.caller u.self u.value, made := s.now.made } := by
                                                      unfold entW entA
                                                      rw [if_pos ⟨hk3, hk7⟩, if_neg hcr]
                                                    have e8 : ({ entY s u with phase := 1 } : YSt) = { s with now := entW s.now u, ret := [], frames := s.frames ++ [{ u with saved := s.now }], phase := 1 } := rfl
                                                    rw [e8, e9, entA1, if_neg hcr]
                                                    exact ⟨rfl, _, _, _, hX⟩)))
                                            · skip
                                              
                                              have hk7 : u.kind = 7 := by have := of_decide_eq_false cB3; omega
                                              refine c_skip ?_
                                              refine hK59 _ _ ?_
                                              refine fg2 0 6 (gS rfl (gS rfl (gS rfl g0))) (gS rfl g0) (fun g => ?_)
                                              refine c_seq (fun K69 hK69 => ?_)
                                              refine c_seq (fun K70 hK70 => ?_)
                                              exact (by
                                                refine c_region ?_
                                                refine l_step (y_moveV (et g0 rfl)) ?_
                                                refine l_step (y_not (et g0 rfl)) ?_
                                                refine l_nil ?_
                                                refine hK70 _ _ ?_
                                                refine fg3 0 6 113 (gS rfl (gS rfl (gS rfl g0))) (gS rfl (gS rfl g0)) g0 (fun g => ?_)
                                                refine c_false (et g0 rfl) (by rfl) ?_
                                                refine c_skip ?_
                                                refine hK69 _ _ ?_
                                                refine fg1 6 (gS rfl g0) (fun g => ?_)
                                                refine c_seq (fun K72 hK72 => ?_)
                                                exact (by
                                                  refine c_region ?_
                                                  refine l_step (y_moveV (et g0 rfl)) ?_
                                                  refine l_step (y_assignV (et g0 rfl)) ?_
                                                  refine l_nil ?_
                                                  refine hK72 _ _ ?_
                                                  refine fg1 4 g0 (fun g => ?_)
                                                  refine c_ret ?_
                                                  repeat with_reducible refine then_ret ?_
                                                  refine ret1 rfl (res_tmp (et g0 rfl)) ?_
                                                  rw [hs1] at hX
                                                  have e9 : entW s.now u = { s.now with accts := entA1 s.now u, made := s.now.made } := by
                                                    unfold entW entA
                                                    rw [if_neg (by omega), if_neg hcr]
                                                  have e8 : ({ entY s u with phase := 1 } : YSt) = { s with now := entW s.now u, ret := [], frames := s.frames ++ [{ u with saved := s.now }], phase := 1 } := rfl
                                                  rw [e8, e9, entA1, if_neg hcr]
                                                  exact ⟨rfl, _, _, _, hX.slack (by first | omega | (split <;> omega))⟩))
                                          · skip
                                            have hk3 : u.kind = 3 := by have := of_decide_eq_false q62; omega
                                            refine l_gskip (j := 6) (t := 99) (by exact rfl) (by exact rfl) (et g0 rfl) (by decide) (by decide) ?_
                                            refine l_gskip (j := 6) (t := 99) (by exact rfl) (by exact rfl) (et (gS rfl g0) rfl) (by decide) (by decide) ?_
                                            refine l_gskip (j := 6) (t := 99) (by exact rfl) (by exact rfl) (et (gS rfl (gS rfl g0)) rfl) (by decide) (by decide) ?_
                                            refine l_step (y_pickF (et (gS rfl (gS rfl (gS rfl g0))) rfl) rfl) ?_
                                            refine l_nil ?_
                                            refine hK60 _ _ ?_
                                            refine fg4 0 3 6 103 (gS rfl (gS rfl (gS rfl (gS rfl (gS rfl (gS rfl (gS rfl (gS rfl (gS rfl (gS rfl (gS rfl (gS rfl (gS rfl (gS rfl (gS rfl g0))))))))))))))) (gS rfl (gS rfl (gS rfl (gS rfl (gS rfl (gS rfl (gS rfl (gS rfl (gS rfl (gS rfl (gS rfl (gS rfl (gS rfl (gS rfl g0)))))))))))))) (gS rfl (gS rfl (gS rfl (gS rfl (gS rfl (gS rfl (gS rfl (gS rfl (gS rfl (gS rfl (gS rfl (gS rfl (gS rfl g0))))))))))))) g0 (fun g => ?_)
                                            refine c_false (et g0 rfl) rfl ?_
                                            refine c_skip ?_
                                            refine hK59 _ _ ?_
                                            refine fg2 0 6 (gS rfl (gS rfl (gS rfl g0))) (gS rfl g0) (fun g => ?_)
                                            refine c_seq (fun K74 hK74 => ?_)
                                            refine c_seq (fun K75 hK75 => ?_)
                                            exact (by
                                              refine c_region ?_
                                              refine l_step (y_moveV (et g0 rfl)) ?_
                                              refine l_step (y_not (et g0 rfl)) ?_
                                              refine l_nil ?_
                                              refine hK75 _ _ ?_
                                              refine fg3 0 6 113 (gS rfl (gS rfl (gS rfl g0))) (gS rfl (gS rfl g0)) g0 (fun g => ?_)
                                              refine c_false (et g0 rfl) (by rfl) ?_
                                              refine c_skip ?_
                                              refine hK74 _ _ ?_
                                              refine fg1 6 (gS rfl g0) (fun g => ?_)
                                              refine c_seq (fun K77 hK77 => ?_)
                                              exact (by
                                                refine c_region ?_
                                                refine l_step (y_moveV (et g0 rfl)) ?_
                                                refine l_step (y_assignV (et g0 rfl)) ?_
                                                refine l_nil ?_
                                                refine hK77 _ _ ?_
                                                refine fg1 4 g0 (fun g => ?_)
                                                refine c_ret ?_
                                                repeat with_reducible refine then_ret ?_
                                                refine ret1 rfl (res_tmp (et g0 rfl)) ?_
                                                rw [hs1] at hX
                                                have e9 : entW s.now u = { s.now with accts := entA1 s.now u, made := s.now.made } := by
                                                  unfold entW entA
                                                  rw [if_neg (by omega), if_neg hcr]
                                                have e8 : ({ entY s u with phase := 1 } : YSt) = { s with now := entW s.now u, ret := [], frames := s.frames ++ [{ u with saved := s.now }], phase := 1 } := rfl
                                                rw [e8, e9, entA1, if_neg hcr]
                                                exact ⟨rfl, _, _, _, hX.slack (by first | omega | (split <;> omega))⟩))
                                        · skip
                                          cases q61)
                                  · skip
                                    cases q33)))))
                      · skip
                        exact absurd (of_decide_eq_false q20) (by omega)))))))))
end Go.Proofs.YgvaawGreat
