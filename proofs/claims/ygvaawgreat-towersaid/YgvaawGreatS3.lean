import Derived.Test.YgvaawGreatS2
import Derived.Test.YgvaawGreatE7
set_option maxRecDepth 100000
set_option maxHeartbeats 4000000
set_option linter.unusedSimpArgs false
set_option linter.unusedVariables false
namespace Go.Proofs.YgvaawGreat
open Go
theorem wV_160 {a : Nat} (h : a < A160) : Value.agg (uL [a % 18446744073709551616, a / 4294967296 % 18446744073709551616 / 4294967296 % 4294967296 + a / 79228162514264337593543950336 * 4294967296 % 18446744073709551616, a / 79228162514264337593543950336 / 4294967296, 0]).toArray = wV a := by
  have hA : A160 = 1461501637330902918203684832716283019655932542976 := rfl
  rw [hA] at h
  have e0 : limb a 0 = a % 18446744073709551616 := by
    unfold limb
    rw [Nat.pow_zero, Nat.div_one]
  have e1 : limb a 1 = a / 4294967296 % 18446744073709551616 / 4294967296 % 4294967296 + a / 79228162514264337593543950336 * 4294967296 % 18446744073709551616 := by
    unfold limb
    rw [Nat.pow_one]
    omega
  have e2 : limb a 2 = a / 79228162514264337593543950336 / 4294967296 := by
    unfold limb
    rw [show (18446744073709551616 : Nat) ^ 2 = 340282366920938463463374607431768211456 from rfl]
    omega
  have e3 : limb a 3 = 0 := by
    unfold limb
    rw [show (18446744073709551616 : Nat) ^ 3 = 6277101735386680763835789423207666416102355444464034512896 from rfl]
    omega
  unfold wV wL
  rw [e0, e1, e2, e3]
theorem adr_hi {w : World} {b a : Nat} (k : Blk w b (bL (be 20 a)).toArray) (ha : a < A160) : Ret 156 [.slice (some ⟨b, 0, none⟩) 20 20, .int .i64 0] w (fun v w' => v = .tuple #[.int .u64 ((a / 79228162514264337593543950336 : Nat) : Int), .bool true] ∧ Up w w') := by
  have hA : A160 = 1461501637330902918203684832716283019655932542976 := rfl
  have e : be 20 a = be 8 (a / 79228162514264337593543950336) ++ be 12 a := be_split 8 12 a
  have e2 : ofBE (be 8 (a / 79228162514264337593543950336)) = a / 79228162514264337593543950336 := by
    rw [ofBE_be, show (256 : Nat) ^ 8 = 18446744073709551616 from rfl]
    omega
  rw [e, bL_append] at k
  have h := be64_l b 0 20 20 0 (be 8 (a / 79228162514264337593543950336)) w (by omega) (by omega) (by omega) (length_be _ _) (be_lt _ _) (k.row (RowIn.app _ _))
  rw [e2] at h
  exact h
theorem row_in {p q r : List Value} {o : Nat} (h : p.length = o) : RowIn (p ++ (q ++ r)).toArray o q := fun i v hv => by
  rw [List.getElem?_toArray, List.getElem?_append_right (by omega), show o + i - p.length = i by omega, List.getElem?_append_left (List.getElem?_eq_some_iff.1 hv).1]
  exact hv
theorem adr_mid {w : World} {b a : Nat} (k : Blk w b (bL (be 20 a)).toArray) : Ret 156 [.slice (some ⟨b, 0, none⟩) 20 20, .int .i64 8] w (fun v w' => v = .tuple #[.int .u64 ((a / 4294967296 % 18446744073709551616 : Nat) : Int), .bool true] ∧ Up w w') := by
  have e : be 20 a = be 8 (a / 79228162514264337593543950336) ++ be 12 a := be_split 8 12 a
  have e1 : be 12 a = be 8 (a / 4294967296) ++ be 4 a := be_split 8 4 a
  have e2 : ofBE (be 8 (a / 4294967296)) = a / 4294967296 % 18446744073709551616 := by
    rw [ofBE_be, show (256 : Nat) ^ 8 = 18446744073709551616 from rfl]
  rw [e, e1, bL_append, bL_append] at k
  have h := be64_l b 0 20 20 8 (be 8 (a / 4294967296)) w (by omega) (by omega) (by omega) (length_be _ _) (be_lt _ _) (k.row (row_in (by rw [length_bL, length_be])))
  rw [e2] at h
  exact h
theorem adr_lo {w : World} {b a : Nat} (k : Blk w b (bL (be 20 a)).toArray) : Ret 156 [.slice (some ⟨b, 0, none⟩) 20 20, .int .i64 12] w (fun v w' => v = .tuple #[.int .u64 ((a % 18446744073709551616 : Nat) : Int), .bool true] ∧ Up w w') := by
  have e : be 20 a = be 12 (a / 18446744073709551616) ++ (be 8 a ++ []) := by rw [List.append_nil]; exact be_split 12 8 a
  have e2 : ofBE (be 8 a) = a % 18446744073709551616 := by
    rw [ofBE_be, show (256 : Nat) ^ 8 = 18446744073709551616 from rfl]
  rw [e, bL_append, bL_append] at k
  have h := be64_l b 0 20 20 12 (be 8 a) w (by omega) (by omega) (by omega) (length_be _ _) (be_lt _ _) (k.row (row_in (by rw [length_bL, length_be])))
  rw [e2] at h
  exact h
theorem v_addrWord (a : Nat) (w : World) (ha : a < A160) :
    Ret 74 [aV a] w (fun v w' => v = wV a ∧ Up w w') := by
  refine enter (n := 34) Hvaa.func74 rfl rfl (Nat.le_of_ble_eq_true rfl) ?_
  have U := Up.refl w
  refine c_seq (fun K1 hK1 => ?_)
  exact (by
    refine c_region ?_
    refine l_eff (e_boxV (et g0 rfl)) (fun v2 w2 h2 => ?_)
    obtain ⟨b2, rfl, n2⟩ := h2
    have f2 : w.heap.size ≤ b2 := Nat.le_trans U.size n2.fresh
    replace U := U.tr n2.up
    have k2 := n2.blk
    replace k2 : Blk w2 b2 (bL (be 20 a)).toArray := k2
    refine l_eff (e_alloc zr_65) (fun v3 w3 h3 => ?_)
    obtain ⟨b3, rfl, n3⟩ := h3
    have d2_3 : b2 < b3 := Nat.lt_of_lt_of_le k2.lt n3.fresh
    have f3 : w.heap.size ≤ b3 := Nat.le_trans U.size n3.fresh
    replace k2 := k2.up n3.up
    replace U := U.tr n3.up
    have k3 := n3.blk
    refine l_nil ?_
    refine hK1 _ _ ?_
    refine fg2 1 2 (gS rfl g0) g0 (fun g => ?_)
    refine c_seq (fun K4 hK4 => ?_)
    exact (by
      refine c_region ?_
      refine l_step (y_slA000 Hvaa.underlying25 sz_5 (et (gS rfl g0) rfl) ) ?_
      refine l_eff (e_callV cal_156 (aC (et g0 rfl) (aC (v := .int .i64 ((0 : Nat) : Int)) rfl aN)) (adr_hi k2 ha)) (fun v5 w5 h5 => ?_)
      obtain ⟨rfl, u5⟩ := h5
      replace k2 := k2.up u5
      replace k3 := k3.up u5
      replace U := U.tr u5
      refine l_step (y_moveV (et g0 rfl)) ?_
      refine l_step (y_ext (et g0 rfl) rfl) ?_
      refine l_step (y_ext (et (gS rfl g0) rfl) rfl) ?_
      refine l_step (y_assignV (et (gS rfl g0) rfl)) ?_
      refine l_step (y_assignV (et (gS rfl g0) rfl)) ?_
      refine l_nil ?_
      refine hK4 _ _ ?_
      refine fg3 1 2 3 (gS rfl (gS rfl (gS rfl (gS rfl (gS rfl (gS rfl (gS rfl (gS rfl g0)))))))) (gS rfl (gS rfl (gS rfl (gS rfl (gS rfl (gS rfl (gS rfl g0))))))) (gS rfl g0) (fun g => ?_)
      refine c_seq (fun K6 hK6 => ?_)
      exact (by
        refine c_region ?_
        refine l_step (y_slA000 Hvaa.underlying25 sz_5 (et (gS rfl (gS rfl g0)) rfl) ) ?_
        refine l_eff (e_callV cal_156 (aC (et g0 rfl) (aC (v := .int .i64 ((8 : Nat) : Int)) rfl aN)) (adr_mid k2)) (fun v7 w7 h7 => ?_)
        obtain ⟨rfl, u7⟩ := h7
        replace k2 := k2.up u7
        replace k3 := k3.up u7
        replace U := U.tr u7
        refine l_step (y_moveV (et g0 rfl)) ?_
        refine l_step (y_ext (et g0 rfl) rfl) ?_
        refine l_step (y_ext (et (gS rfl g0) rfl) rfl) ?_
        refine l_step (y_assignV (et (gS rfl g0) rfl)) ?_
        refine l_step (y_assignV (et (gS rfl g0) rfl)) ?_
        refine l_nil ?_
        refine hK6 _ _ ?_
        refine fg4 1 2 3 5 (gS rfl (gS rfl (gS rfl (gS rfl (gS rfl (gS rfl (gS rfl (gS rfl (gS rfl g0))))))))) (gS rfl (gS rfl (gS rfl (gS rfl (gS rfl (gS rfl (gS rfl (gS rfl g0)))))))) (gS rfl (gS rfl (gS rfl (gS rfl (gS rfl (gS rfl (gS rfl g0))))))) (gS rfl g0) (fun g => ?_)
        refine c_seq (fun K8 hK8 => ?_)
        exact (by
          refine c_region ?_
          refine l_step (y_slA000 Hvaa.underlying25 sz_5 (et (gS rfl (gS rfl (gS rfl g0))) rfl) ) ?_
          refine l_eff (e_callV cal_156 (aC (et g0 rfl) (aC (v := .int .i64 ((12 : Nat) : Int)) rfl aN)) (adr_lo k2)) (fun v9 w9 h9 => ?_)
          obtain ⟨rfl, u9⟩ := h9
          replace k2 := k2.up u9
          replace k3 := k3.up u9
          replace U := U.tr u9
          refine l_step (y_moveV (et g0 rfl)) ?_
          refine l_step (y_ext (et g0 rfl) rfl) ?_
          refine l_step (y_ext (et (gS rfl g0) rfl) rfl) ?_
          refine l_step (y_assignV (et (gS rfl g0) rfl)) ?_
          refine l_step (y_assignV (et (gS rfl g0) rfl)) ?_
          refine l_nil ?_
          refine hK8 _ _ ?_
          refine fg4 2 3 5 7 (gS rfl (gS rfl (gS rfl (gS rfl (gS rfl (gS rfl (gS rfl (gS rfl (gS rfl g0))))))))) (gS rfl (gS rfl (gS rfl (gS rfl (gS rfl (gS rfl (gS rfl (gS rfl g0)))))))) (gS rfl (gS rfl (gS rfl (gS rfl (gS rfl (gS rfl (gS rfl g0))))))) (gS rfl g0) (fun g => ?_)
          refine c_seq (fun K10 hK10 => ?_)
          exact (by
            refine c_region ?_
            refine l_step (y_moveV (et g0 rfl)) ?_
            refine l_step (y_moveV (et (gS rfl (gS rfl g0)) rfl)) ?_
            refine l_step (y_shr (et g0 rfl) rfl (by decide) (shr64C 32 4294967296 (by decide) rfl)) ?_
            refine l_step (y_andM 32 4294967296 uk64 (et g0 rfl) rfl ?_ rfl rfl (by decide)) ?_
            omega
            refine l_step (y_moveV (et (gS rfl (gS rfl (gS rfl (gS rfl (gS rfl (gS rfl g0)))))) rfl)) ?_
            refine l_step (y_shl (et g0 rfl) rfl (by decide) (shl64C 32 4294967296 (by decide) rfl)) ?_
            refine l_step (y_orS 32 uk64 (et (gS rfl (gS rfl g0)) rfl) (et g0 rfl) ?_ ?_ ?_ ?_) ?_
            omega
            omega
            omega
            omega
            refine l_step (y_moveV (et (gS rfl (gS rfl (gS rfl (gS rfl (gS rfl (gS rfl (gS rfl (gS rfl (gS rfl g0))))))))) rfl)) ?_
            refine l_step (y_shr (et g0 rfl) rfl (by decide) (shr64C 32 4294967296 (by decide) rfl)) ?_
            refine l_step (y_bld (bC (et (gS rfl (gS rfl (gS rfl (gS rfl (gS rfl (gS rfl (gS rfl (gS rfl g0)))))))) rfl) (bC (et (gS rfl (gS rfl g0)) rfl) (bC (et g0 rfl) bN))) (bld65_3 _ _ _)) ?_
            refine l_effN (e_store sz_65 (et (gS rfl (gS rfl (gS rfl (gS rfl (gS rfl (gS rfl (gS rfl (gS rfl (gS rfl (gS rfl (gS rfl (gS rfl (gS rfl g0))))))))))))) rfl) (cellsV (et g0 rfl) rfl) (by first | (simp only [Value.cells, hV, aV, bV, wV, wL, List.size_toArray, length_bL, length_uL, length_be, size_spl, List.length_cons, List.length_nil, List.length_replicate, Nat.zero_add, Nat.reduceAdd, Nat.reduceLeDiff, Nat.le_refl]; done) | rfl) (by first | exact one_bL _ | exact one_uL _ | (intro v hv; simp at hv; subst hv; rfl)) k3 (by first | (simp only [Value.cells, hV, aV, bV, wV, wL, List.size_toArray, length_bL, length_uL, length_be, size_spl, List.length_cons, List.length_nil, List.length_replicate, Nat.zero_add, Nat.reduceAdd, Nat.reduceLeDiff, Nat.le_refl]; done) | exact Nat.le_of_ble_eq_true rfl | simp | omega)) (fun v11 w11 h11 => ?_)
            obtain ⟨rfl, x11⟩ := h11
            replace k2 := k2.ch x11.ch (by omega)
            replace k3 := x11.blk.full (by first | (simp only [Value.cells, hV, aV, bV, wV, wL, List.size_toArray, length_bL, length_uL, length_be, size_spl, List.length_cons, List.length_nil, List.length_replicate, Nat.zero_add, Nat.reduceAdd, Nat.reduceLeDiff, Nat.le_refl]; done) | rfl)
            replace U := U.st x11 f3
            refine l_nil ?_
            refine hK10 _ _ ?_
            refine fg1 2 (gS rfl (gS rfl (gS rfl (gS rfl (gS rfl (gS rfl (gS rfl (gS rfl (gS rfl (gS rfl (gS rfl (gS rfl (gS rfl g0))))))))))))) (fun g => ?_)
            refine c_ret ?_
            repeat with_reducible refine then_ret ?_
            refine ret1 rfl (res_blk agg_65 sz_65 (et g0 rfl) (by first | (simp only [Value.cells, hV, aV, bV, wV, wL, List.size_toArray, length_bL, length_uL, length_be, size_spl, List.length_cons, List.length_nil, List.length_replicate, Nat.zero_add, Nat.reduceAdd, Nat.reduceLeDiff, Nat.le_refl]; done) | rfl) k3) ?_
            exact ⟨wV_160 ha, U⟩)))))
theorem eaC_at {x : EAcct} {vc : Value} {i o : Nat} (h : o = 20 + i) : (eaC x vc).toArray[o]? = ((.int .u64 (x.nonce : Nat) :: (wL x.bal ++ [vc, .bool x.warm, .bool x.made, .bool x.gone])) : List Value)[i]? := app20 h
theorem Row.c1 {w : World} {b o j q : Nat} {l : List Value} {v : Value} (h : Row w b o l) (hv : l[j]? = some v) (e : q = o + j) : w.cell? ⟨b, q, none⟩ = some v := by
  rw [e]
  exact h j v hv
theorem eaC_row {x : EAcct} {vc : Value} {w : World} {b o q : Nat} (h : Row w b o (eaC x vc)) (e : q = o + 21) : Row w b q (wL x.bal) := by
  intro i v hv
  have hi : i < 4 := (List.getElem?_eq_some_iff.1 hv).1
  rw [e, Nat.add_assoc]
  refine h (21 + i) v ?_
  have := eaC_at (x := x) (vc := vc) (i := 1 + i) (o := 21 + i) (by omega)
  rw [List.getElem?_toArray] at this
  rw [this, show 1 + i = i + 1 by omega, List.getElem?_cons_succ, List.getElem?_append_left (by rw [wL_len]; exact hi)]
  exact hv
theorem eaC_adr {x : EAcct} {vc : Value} {w : World} {b o q : Nat} (h : Row w b o (eaC x vc)) (e : q = o) : Row w b q (bL (be 20 x.addr)) := by
  intro i v hv
  rw [e]
  refine h i v ?_
  unfold eaC
  rw [List.getElem?_append_left (List.getElem?_eq_some_iff.1 hv).1]
  exact hv
theorem eaC_non {x : EAcct} {vc : Value} : (eaC x vc)[20]? = some (.int .u64 (x.nonce : Nat)) := by
  have := eaC_at (x := x) (vc := vc) (i := 0) (o := 20) rfl
  rw [List.getElem?_toArray] at this
  exact this
theorem eaC_cod {x : EAcct} {vc : Value} : (eaC x vc)[25]? = some vc := by
  have := eaC_at (x := x) (vc := vc) (i := 5) (o := 25) rfl
  rw [List.getElem?_toArray] at this
  exact this
theorem v_emptyR {w : World} {x : EAcct} {b o : Nat} {ca9 : Option Addr} {cd9 : Nat} (hA : Row w b o (eaC x (.slice ca9 x.code.length cd9))) (hx : x.Ok) :
    Ret 73 [.pointer (some ⟨b, o, none⟩)] w (fun v w' => v = .bool (emA x) ∧ Up w w') := by
  refine enter (n := 23) Hvaa.func73 rfl rfl (Nat.le_of_ble_eq_true rfl) ?_
  have U := Up.refl w
  refine c_seq (fun K1 hK1 => ?_)
  exact (by
    refine c_region ?_
    refine l_step y_assignC ?_
    refine l_nil ?_
    refine hK1 _ _ ?_
    refine fg1 0 (gS rfl g0) (fun g => ?_)
    refine c_seq (fun K2 hK2 => ?_)
    exact (by
      refine c_region ?_
      refine l_step (y_moveV (et g0 rfl)) ?_
      refine l_step (y_nil (et g0 rfl)) ?_
      refine l_step (y_fld fld_167_1 (et g0 rfl)) ?_
      refine l_step (y_load1 one_26 (et g0 rfl) (at1 (hA.c1 eaC_non (by omega)))) ?_
      refine l_step (y_eql (et g0 rfl) rfl) ?_
      refine l_step (y_moveV (et g0 rfl)) ?_
      refine gsplitL (i := 8) g0 (fun q3 => ?_) (fun q3 => ?_)
      · skip
        have e1 : x.nonce = 0 := by have := of_decide_eq_true q3; omega
        refine l_gstep (j := 5) (t := 8) (by exact rfl) (by exact rfl) (et g0 rfl) (by decide) (y_moveV (et (gS rfl (gS rfl (gS rfl (gS rfl (gS rfl (gS rfl (gS rfl g0))))))) rfl)) ?_
        refine l_gstep (j := 5) (t := 8) (by exact rfl) (by exact rfl) (et (gS rfl g0) rfl) (by decide) (y_nil (et g0 rfl)) ?_
        refine l_gstep (j := 5) (t := 8) (by exact rfl) (by exact rfl) (et (gS rfl (gS rfl g0)) rfl) (by decide) (y_fld fld_167_2 (et g0 rfl)) ?_
        refine l_gstep (j := 5) (t := 8) (by exact rfl) (by exact rfl) (et (gS rfl (gS rfl (gS rfl g0))) rfl) (by decide) (y_loadR agg_65 sz_65 (et g0 rfl) rfl (at1R (eaC_row hA (by omega)))) ?_
        refine l_geff (j := 5) (t := 8) (by exact rfl) (by exact rfl) (et (gS rfl (gS rfl (gS rfl (gS rfl g0)))) rfl) rfl (e_callV cal_78 (aC (et g0 rfl) aN) (isZero_spec _ _ hx.bal)) (fun v4 w4 h4 => ?_)
        obtain ⟨rfl, u4⟩ := h4
        replace hA := hA.up u4
        replace U := U.tr u4
        refine l_step (y_pickT (et (gS rfl (gS rfl (gS rfl (gS rfl (gS rfl g0))))) rfl) (et g0 rfl)) ?_
        refine l_step (y_moveV (et g0 rfl)) ?_
        refine gsplitL (i := 15) g0 (fun q5 => ?_) (fun q5 => ?_)
        · skip
          have e2 : x.bal = 0 := of_decide_eq_true q5
          refine l_gstep (j := 12) (t := 15) (by exact rfl) (by exact rfl) (et g0 rfl) (by decide) (y_moveV (et (gS rfl (gS rfl (gS rfl (gS rfl (gS rfl (gS rfl (gS rfl (gS rfl (gS rfl (gS rfl (gS rfl (gS rfl (gS rfl (gS rfl (gS rfl g0))))))))))))))) rfl)) ?_
          refine l_gstep (j := 12) (t := 15) (by exact rfl) (by exact rfl) (et (gS rfl g0) rfl) (by decide) (y_nil (et g0 rfl)) ?_
          refine l_gstep (j := 12) (t := 15) (by exact rfl) (by exact rfl) (et (gS rfl (gS rfl g0)) rfl) (by decide) (y_fld fld_167_3 (et g0 rfl)) ?_
          refine l_gstep (j := 12) (t := 15) (by exact rfl) (by exact rfl) (et (gS rfl (gS rfl (gS rfl g0))) rfl) (by decide) (y_load1 one_38 (et g0 rfl) (at1 (hA.c1 eaC_cod (by omega)))) ?_
          refine l_gstep (j := 12) (t := 15) (by exact rfl) (by exact rfl) (et (gS rfl (gS rfl (gS rfl (gS rfl g0)))) rfl) (by decide) (y_len Hvaa.underlying38 (et g0 rfl)) ?_
          refine l_gstep (j := 12) (t := 15) (by exact rfl) (by exact rfl) (et (gS rfl (gS rfl (gS rfl (gS rfl (gS rfl g0))))) rfl) (by decide) (y_eql (et g0 rfl) rfl) ?_
          refine l_step (y_pickT (et (gS rfl (gS rfl (gS rfl (gS rfl (gS rfl (gS rfl g0)))))) rfl) (et g0 rfl)) ?_
          refine l_step (y_assignV (et g0 rfl)) ?_
          refine l_nil ?_
          refine hK2 _ _ ?_
          refine fg1 2 g0 (fun g => ?_)
          refine c_ret ?_
          repeat with_reducible refine then_ret ?_
          refine ret1 rfl (res_tmp (et g0 rfl)) ?_
          refine ⟨?_, U⟩
          unfold emA
          rw [decide_eq_true e1, decide_eq_true e2, Bool.true_and, Bool.true_and]
          exact congrArg Value.bool (decide_eq_decide.2 (by omega))
        · skip
          have e2 : ¬ x.bal = 0 := of_decide_eq_false q5
          refine l_gskip (j := 12) (t := 15) (by exact rfl) (by exact rfl) (et g0 rfl) (by decide) (by decide) ?_
          refine l_gskip (j := 12) (t := 15) (by exact rfl) (by exact rfl) (et (gS rfl g0) rfl) (by decide) (by decide) ?_
          refine l_gskip (j := 12) (t := 15) (by exact rfl) (by exact rfl) (et (gS rfl (gS rfl g0)) rfl) (by decide) (by decide) ?_
          refine l_gskip (j := 12) (t := 15) (by exact rfl) (by exact rfl) (et (gS rfl (gS rfl (gS rfl g0))) rfl) (by decide) (by decide) ?_
          refine l_gskip (j := 12) (t := 15) (by exact rfl) (by exact rfl) (et (gS rfl (gS rfl (gS rfl (gS rfl g0)))) rfl) (by decide) (by decide) ?_
          refine l_gskip (j := 12) (t := 15) (by exact rfl) (by exact rfl) (et (gS rfl (gS rfl (gS rfl (gS rfl (gS rfl g0))))) rfl) (by decide) (by decide) ?_
          refine l_step (y_pickF (et (gS rfl (gS rfl (gS rfl (gS rfl (gS rfl (gS rfl g0)))))) rfl) rfl) ?_
          refine l_step (y_assignV (et g0 rfl)) ?_
          refine l_nil ?_
          refine hK2 _ _ ?_
          refine fg1 2 g0 (fun g => ?_)
          refine c_ret ?_
          repeat with_reducible refine then_ret ?_
          refine ret1 rfl (res_tmp (et g0 rfl)) ?_
          exact ⟨congrArg Value.bool (show false = emA x by unfold emA; rw [decide_eq_false e2, Bool.and_false, Bool.false_and]), U⟩
      · skip
        have e1 : ¬ x.nonce = 0 := by have := of_decide_eq_false q3; omega
        refine l_gskip (j := 5) (t := 8) (by exact rfl) (by exact rfl) (et g0 rfl) (by decide) (by decide) ?_
        refine l_gskip (j := 5) (t := 8) (by exact rfl) (by exact rfl) (et (gS rfl g0) rfl) (by decide) (by decide) ?_
        refine l_gskip (j := 5) (t := 8) (by exact rfl) (by exact rfl) (et (gS rfl (gS rfl g0)) rfl) (by decide) (by decide) ?_
        refine l_gskip (j := 5) (t := 8) (by exact rfl) (by exact rfl) (et (gS rfl (gS rfl (gS rfl g0))) rfl) (by decide) (by decide) ?_
        refine l_gskip (j := 5) (t := 8) (by exact rfl) (by exact rfl) (et (gS rfl (gS rfl (gS rfl (gS rfl g0)))) rfl) (by decide) (by decide) ?_
        refine l_step (y_pickF (et (gS rfl (gS rfl (gS rfl (gS rfl (gS rfl g0))))) rfl) rfl) ?_
        refine l_step (y_moveV (et g0 rfl)) ?_
        refine l_gskip (j := 12) (t := 15) (by exact rfl) (by exact rfl) (et g0 rfl) (by decide) (by decide) ?_
        refine l_gskip (j := 12) (t := 15) (by exact rfl) (by exact rfl) (et (gS rfl g0) rfl) (by decide) (by decide) ?_
        refine l_gskip (j := 12) (t := 15) (by exact rfl) (by exact rfl) (et (gS rfl (gS rfl g0)) rfl) (by decide) (by decide) ?_
        refine l_gskip (j := 12) (t := 15) (by exact rfl) (by exact rfl) (et (gS rfl (gS rfl (gS rfl g0))) rfl) (by decide) (by decide) ?_
        refine l_gskip (j := 12) (t := 15) (by exact rfl) (by exact rfl) (et (gS rfl (gS rfl (gS rfl (gS rfl g0)))) rfl) (by decide) (by decide) ?_
        refine l_gskip (j := 12) (t := 15) (by exact rfl) (by exact rfl) (et (gS rfl (gS rfl (gS rfl (gS rfl (gS rfl g0))))) rfl) (by decide) (by decide) ?_
        refine l_step (y_pickF (et (gS rfl (gS rfl (gS rfl (gS rfl (gS rfl (gS rfl g0)))))) rfl) rfl) ?_
        refine l_step (y_assignV (et g0 rfl)) ?_
        refine l_nil ?_
        refine hK2 _ _ ?_
        refine fg1 2 g0 (fun g => ?_)
        refine c_ret ?_
        repeat with_reducible refine then_ret ?_
        refine ret1 rfl (res_tmp (et g0 rfl)) ?_
        exact ⟨congrArg Value.bool (show false = emA x by unfold emA; rw [decide_eq_false e1, Bool.false_and, Bool.false_and]), U⟩))
theorem v_sorted0 {w : World} :
    Ret 75 [.slice none 0 0] w (fun v w' => v = .slice none 0 0 ∧ Up w w') := by
  refine enter (n := 59) Hvaa.func75 rfl rfl (Nat.le_of_ble_eq_true rfl) ?_
  have U := Up.refl w
  refine c_seq (fun K1 hK1 => ?_)
  exact (by
    refine c_region ?_
    refine l_step y_assignC ?_
    refine l_nil ?_
    refine hK1 _ _ ?_
    refine fg1 0 (gS rfl g0) (fun g => ?_)
    refine c_seq (fun K2 hK2 => ?_)
    exact (by
      refine c_region ?_
      refine l_step (y_moveV (et g0 rfl)) ?_
      refine l_step (y_assignV (et g0 rfl)) ?_
      refine l_nil ?_
      refine hK2 _ _ ?_
      refine fg2 0 3 (gS rfl (gS rfl g0)) g0 (fun g => ?_)
      refine c_seq (fun K3 hK3 => ?_)
      exact (by
        refine c_region ?_
        refine l_step (y_moveV (et (gS rfl g0) rfl)) ?_
        refine l_step (y_len Hvaa.underlying165 (et g0 rfl)) ?_
        refine l_eff (e_make Hvaa.underlying165 sz_170 zr_170 by_170 (et g0 rfl) (et g0 rfl) (by omega) (by omega)) (fun v4 w4 h4 => ?_)
        obtain ⟨b4, rfl, n4⟩ := h4
        have f4 : w.heap.size ≤ b4 := Nat.le_trans U.size n4.fresh
        replace U := U.tr n4.up
        have k4 := n4.blk
        refine l_step (y_assignV (et g0 rfl)) ?_
        refine l_nil ?_
        refine hK3 _ _ ?_
        refine fg2 3 4 (gS rfl (gS rfl (gS rfl (gS rfl g0)))) g0 (fun g => ?_)
        refine c_seq (fun K5 hK5 => ?_)
        refine c_seq (fun K6 hK6 => ?_)
        exact (by
          refine c_region ?_
          refine l_step y_assignC ?_
          refine l_nil ?_
          refine hK6 _ _ ?_
          refine c_block (fun Q7 hQ7 => ?_)
          refine fg3 3 4 5 (gS rfl (gS rfl g0)) (gS rfl g0) g0 (fun g => ?_)
          refine c_loop (fun k_ s_ W8 => ∃ (g : Nat → Value), s_ = (upd (upd (upd g 3 (.slice none 0 0)) 4 (.slice (some ⟨b4, 0, none⟩) 0 0)) 5 (.int .i64 1)) ∧ 0 = k_ ∧ (True) ∧ Ch (fun k => False) w4 W8) (0) ?_ ?_
          · exact ⟨g, rfl, rfl, trivial, Ch.refl _ _⟩
          · skip
            intro k_ s_ W8 hI K8 hK8
            obtain ⟨g, rfl, rfl, ht, V8⟩ := hI
            replace k4 := k4.ch V8 (by exact fun h => h)
            replace U := U.cc V8 (by intro b hb; first | exact hb.elim | omega | (simp at hb ⊢; omega))
            refine c_seq (fun K9 hK9 => ?_)
            refine c_seq (fun K10 hK10 => ?_)
            exact (by
              refine c_region ?_
              refine l_step (y_moveV (et g0 rfl)) ?_
              refine l_step (y_moveV (et (gS rfl (gS rfl (gS rfl g0))) rfl)) ?_
              refine l_step (y_len Hvaa.underlying165 (et g0 rfl)) ?_
              refine l_step (y_lss (et (gS rfl (gS rfl g0)) rfl) (et g0 rfl)) ?_
              refine l_nil ?_
              refine hK10 _ _ ?_
              refine fg4 3 4 5 16 (gS rfl (gS rfl (gS rfl (gS rfl (gS rfl (gS rfl g0)))))) (gS rfl (gS rfl (gS rfl (gS rfl (gS rfl g0))))) (gS rfl (gS rfl (gS rfl (gS rfl g0)))) g0 (fun g => ?_)
              refine c_false (et g0 rfl) (by decide) ?_
              refine c_exit ?_
              refine hQ7 _ _ _ (in_exit ?_)
              refine hK5 _ _ ?_
              refine fg1 3 (gS rfl (gS rfl (gS rfl g0))) (fun g => ?_)
              refine c_seq (fun K12 hK12 => ?_)
              exact (by
                refine c_region ?_
                refine l_step (y_moveV (et g0 rfl)) ?_
                refine l_step (y_assignV (et g0 rfl)) ?_
                refine l_nil ?_
                refine hK12 _ _ ?_
                refine fg1 2 g0 (fun g => ?_)
                refine c_ret ?_
                repeat with_reducible refine then_ret ?_
                refine ret1 rfl (res_tmp (et g0 rfl)) ?_
                exact ⟨rfl, U⟩))))))
end Go.Proofs.YgvaawGreat
