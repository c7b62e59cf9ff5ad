import Derived.Test.YgvaawGreatY52
import Derived.Test.YgvaawGreatO4
import Derived.Test.YgvaawGreatP11
set_option maxRecDepth 100000
set_option maxHeartbeats 4000000
set_option linter.unusedSimpArgs false
set_option linter.unusedVariables false
namespace Go.Proofs.YgvaawGreat
open Go
theorem bld_ac {a : Nat} {vn vb vc : Value} (h1 : vn.one1 = true) (h2 : vb.one1 = true) (h3 : vc.one1 = true) (w : World) : (Instr.build 107 ([(0, Value.agg (bL (be 20 a)).toArray), (1, vn), (2, vb), (3, vc)] : List (Nat × Value)).toArray).run Hvaa.prog w = .ok (Value.agg (bL (be 20 a) ++ [vn, vb, vc, Value.slice none 0 0]).toArray) w := by
  have h : (Instr.build 107 ([(0, Value.agg (bL (be 20 a)).toArray), (1, vn), (2, vb), (3, vc)] : List (Nat × Value)).toArray).run Hvaa.prog w = .ok (Value.agg ([(bL (be 20 a)), ([vn]), ([vb]), ([vc]), [Value.slice none 0 0]] : List (List Value)).flatten.toArray) w := bld_run zr_107 plc_107 (fill_flat (off := 0) (k := 20) (f := (List.replicate 20 (Value.int .u8 0))) (c := bL (be 20 a)) (v := Value.agg (bL (be 20 a)).toArray) rfl rfl (by first | (simp [length_bL, length_be]; done) | rfl) (by first | (simp [length_bL, length_be]; done) | rfl) rfl (by first | (simp [length_bL, length_be]; done) | rfl) (fill_flat (off := 20) (k := 1) (f := [Value.slice none 0 0]) (c := [vn]) (v := vn) rfl (cells_one h1) (by first | (simp [length_bL, length_be]; done) | rfl) (by first | (simp [length_bL, length_be]; done) | rfl) rfl (by first | (simp [length_bL, length_be]; done) | rfl) (fill_flat (off := 21) (k := 1) (f := [Value.slice none 0 0]) (c := [vb]) (v := vb) rfl (cells_one h2) (by first | (simp [length_bL, length_be]; done) | rfl) (by first | (simp [length_bL, length_be]; done) | rfl) rfl (by first | (simp [length_bL, length_be]; done) | rfl) (fill_flat (off := 22) (k := 1) (f := [Value.slice none 0 0]) (c := [vc]) (v := vc) rfl (cells_one h3) (by first | (simp [length_bL, length_be]; done) | rfl) (by first | (simp [length_bL, length_be]; done) | rfl) rfl (by first | (simp [length_bL, length_be]; done) | rfl) (fill_nil _ _))))) w
  rw [h]
  simp only [List.flatten_cons, List.flatten_nil, List.append_nil, List.cons_append, List.nil_append, List.append_assoc]
theorem bld_sl {vk vv : Value} (h1 : vk.one1 = true) (h2 : vv.one1 = true) (w : World) : (Instr.build 115 ([(0, vk), (1, vv)] : List (Nat × Value)).toArray).run Hvaa.prog w = .ok (Value.agg ([vk, vv]).toArray) w := by
  have h : (Instr.build 115 ([(0, vk), (1, vv)] : List (Nat × Value)).toArray).run Hvaa.prog w = .ok (Value.agg ([([vk]), ([vv])] : List (List Value)).flatten.toArray) w := bld_run zr_115 plc_115 (fill_flat (off := 0) (k := 1) (f := [Value.slice none 0 0]) (c := [vk]) (v := vk) rfl (cells_one h1) (by first | rfl | (simp [length_bL, length_be]; done)) (by first | rfl | (simp [length_bL, length_be]; done)) rfl (by first | rfl | (simp [length_bL, length_be]; done)) (fill_flat (off := 1) (k := 1) (f := [Value.slice none 0 0]) (c := [vv]) (v := vv) rfl (cells_one h2) (by first | rfl | (simp [length_bL, length_be]; done)) (by first | rfl | (simp [length_bL, length_be]; done)) rfl (by first | rfl | (simp [length_bL, length_be]; done)) (fill_nil _ _))) w
  rw [h]
  rfl
theorem ac_len {a : Nat} {vn vb vc vs : Value} : (bL (be 20 a) ++ [vn, vb, vc, vs]).length = 24 := by rw [List.length_append, length_bL, length_be]; rfl
theorem ac_set {a : Nat} {vn vb vc u v : Value} : spl (bL (be 20 a) ++ [vn, vb, vc, u]).toArray (0 + 23) [v] = (bL (be 20 a) ++ [vn, vb, vc, v]).toArray := by
  have h := spl_mid (bL (be 20 a) ++ [vn, vb, vc]) u [] v (0 + 23) (by rw [List.length_append, length_bL, length_be]; rfl)
  simpa using h
theorem envC_h (e : YEnv) (vh : Value) : (envC e vh).toArray[119]? = some vh := by
  have : envC e vh = (bL (be 20 e.coinbase) ++ ([.int .u64 (e.number : Nat), .int .u64 (e.time : Nat), .int .u64 (e.gasLimit : Nat)] ++ (bL (be 32 e.randao) ++ (bL (be 32 e.chainID) ++ bL (be 32 e.baseFee))))) ++ [vh] := by
    unfold envC
    simp only [List.append_assoc]
  rw [this, List.getElem?_toArray, List.getElem?_append_right (by simp only [List.length_append, length_bL, length_be, List.length_cons, List.length_nil]; decide)]
  simp only [List.length_append, length_bL, length_be, List.length_cons, List.length_nil]
  rfl
theorem stC_env {va vt : Value} {ap : Nat} {e e0 : YEnv} {vh v0 : Value} {o : Nat} (ho : o = 59) : spl (stC va vt ap e0 v0).toArray o (envC e vh) = (stC va vt ap e vh).toArray := by
  subst ho
  have h := spl_app (A := st19 va vt ap ++ (bL (be 20 0) ++ bL (be 20 0))) (M := envC e0 v0) (C := []) (Q := envC e vh) (by rw [envC_len, envC_len])
  have hl : (st19 va vt ap ++ (bL (be 20 0) ++ bL (be 20 0))).length = 59 := by
    rw [List.length_append, List.length_append, length_bL, length_be]
    rfl
  rw [hl] at h
  unfold stC
  simpa only [List.append_assoc, List.append_nil] using h
theorem stC_h {va vt : Value} {ap : Nat} {e : YEnv} {vh v : Value} {o : Nat} (ho : o = 178) : spl (stC va vt ap e vh).toArray o [v] = (stC va vt ap e v).toArray := by
  subst ho
  have h := spl_mid (st19 va vt ap ++ (bL (be 20 0) ++ (bL (be 20 0) ++ (bL (be 20 e.coinbase) ++ ([.int .u64 (e.number : Nat), .int .u64 (e.time : Nat), .int .u64 (e.gasLimit : Nat)] ++ (bL (be 32 e.randao) ++ (bL (be 32 e.chainID) ++ bL (be 32 e.baseFee)))))))) vh [] v 178 (by
    simp only [List.length_append, length_bL, length_be, List.length_cons, List.length_nil]
    rfl)
  unfold stC envC
  simpa only [List.append_assoc] using h
theorem stC_acc {va vb vt : Value} {ap : Nat} {e : YEnv} {vh : Value} {o : Nat} (ho : o = 0) : spl (stC va vt ap e vh).toArray o [vb] = (stC vb vt ap e vh).toArray := by
  subst ho
  unfold stC st19
  exact spl_mid [] va _ vb 0 rfl
theorem stC_tot {va vt vu : Value} {ap : Nat} {e : YEnv} {vh : Value} {o : Nat} (ho : o = 18) : spl (stC va vt ap e vh).toArray o [vu] = (stC va vu ap e vh).toArray := by
  subst ho
  unfold stC st19
  exact spl_mid [va, .slice none 0 0, .slice none 0 0, .slice none 0 0, .slice none 0 0, .slice none 0 0, .slice none 0 0, .slice none 0 0, .slice none 0 0, .slice none 0 0, .slice none 0 0, .int .u8 ((0 : Nat) : Int), .int .u8 ((0 : Nat) : Int), .int .u8 (ap : Nat), .slice none 0 0, .slice none 0 0, .slice none 0 0, .slice none 0 0] vt _ vu 18 rfl
theorem stC_0 {va vt : Value} {ap : Nat} {e : YEnv} {vh : Value} : (stC va vt ap e vh).toArray[0]? = some va := rfl
theorem stC_18 {va vt : Value} {ap : Nat} {e : YEnv} {vh : Value} : (stC va vt ap e vh).toArray[18]? = some vt := rfl
theorem stC_4 {va vt : Value} {ap : Nat} {e : YEnv} {vh : Value} : (stC va vt ap e vh).toArray[4]? = some (.slice none 0 0) := rfl
def env0 : YEnv := ⟨0, 0, 0, 0, 0, 0, 0, []⟩
theorem stC_z : (stC (.slice none 0 0) (.slice none 0 0) 0 env0 (.slice none 0 0)).toArray = (Value.agg (([([([[.slice none 0 0], [.slice none 0 0], [.slice none 0 0], [.slice none 0 0], [.slice none 0 0], [.slice none 0 0], [.slice none 0 0], [.slice none 0 0]] : List (List Value)).flatten, [.slice none 0 0], [.slice none 0 0], [.slice none 0 0], [.int .u8 0], [.int .u8 0], [.int .u8 0], [.slice none 0 0], [.slice none 0 0], [.slice none 0 0], [.slice none 0 0], [.slice none 0 0], (List.replicate 20 (.int .u8 0)), (List.replicate 20 (.int .u8 0)), ([(List.replicate 20 (.int .u8 0)), [.int .u64 0], [.int .u64 0], [.int .u64 0], (List.replicate 32 (.int .u8 0)), (List.replicate 32 (.int .u8 0)), (List.replicate 32 (.int .u8 0)), [.slice none 0 0]] : List (List Value)).flatten] : List (List Value)).flatten] : List (List Value)).flatten : List Value).toArray).cells := rfl
/-- what bounds an environment, its hashes apart -/
structure EB (e : YEnv) : Prop where
  coinbase : e.coinbase < A160
  number : e.number < 18446744073709551616
  time : e.time < 18446744073709551616
  gasLimit : e.gasLimit < 18446744073709551616
  randao : e.randao < W256
  chainID : e.chainID < W256
  baseFee : e.baseFee < W256
/-- the specification's chain at its start -/
def iniY (l : List YAcct) (e : YEnv) : YSt := { now := yw l, start := [], frames := [], ret := [], phase := 0, status := 0, applied := 0, limit := 0, txGas := 0, left := 0, price := 0, total := sumB l, origin := 0, made := 0, env := e }
theorem ini_rest (l : List YAcct) (e : YEnv) : RestS (iniY l e) := ⟨rfl, rfl, rfl, rfl, rfl, rfl, rfl, rfl, rfl, rfl, rfl⟩
theorem yp_new {w : World} {H : Store} (hF : Fz w H) {l : List YAcct} {wa ha : Option Addr} {wc hc : Nat} {e : YEnv} (hW : LV P_oacct 55 H (.slice wa l.length wc) l) (hlm : l.length < 9223372036854775808) (heb : EB e) (hH : LV P_word 32 H (.slice ha e.hashes.length hc) e.hashes) :
    Ret 12 [(.slice wa l.length wc), .agg (envC e (.slice ha e.hashes.length hc)).toArray] w (fun v w' => ∃ t : Bool, (t = true ↔ WOk l ∧ e.hashes.length ≤ 4) ∧ (t = false → v = .tuple #[.pointer none, .bool false] ∧ Up w w') ∧ (t = true → ∃ bs H', v = .tuple #[.pointer (some ⟨bs, 0, none⟩), .bool true] ∧ Go No w H w' H' ∧ w.heap.size ≤ bs ∧ YI w' H' bs (iniY l e))) := by
  refine enter (n := 100) Hvaa.func12 rfl rfl (Nat.le_of_ble_eq_true rfl) ?_
  have U := Up.refl w
  have G : Go (No) w H w H := Go.refl hF
  have hL0 : Le H H := Le.refl H
  refine c_seq (fun K1 hK1 => ?_)
  exact (by
    refine c_region ?_
    refine l_eff (e_boxV (et (gS rfl g0) rfl)) (fun v2 w2 h2 => ?_)
    obtain ⟨b2, rfl, n2⟩ := h2
    have f2 : w.heap.size ≤ b2 := Nat.le_trans U.size n2.fresh
    have nb2 := hF.nb n2.fresh
    replace G := G.tr (Go.ofUp hF n2.up)
    replace hF := hF.up n2.up
    replace U := U.tr n2.up
    have k2 := n2.blk
    replace k2 : Blk w2 b2 (envC e (.slice ha e.hashes.length hc)).toArray := k2
    refine l_step y_assignC ?_
    refine l_step y_assignC ?_
    refine l_nil ?_
    refine hK1 _ _ ?_
    refine fg2 0 3 (gS rfl (gS rfl (gS rfl g0))) (gS rfl (gS rfl g0)) (fun g => ?_)
    refine c_seq (fun K3 hK3 => ?_)
    refine c_seq (fun K4 hK4 => ?_)
    exact (by
      refine c_region ?_
      refine l_step (y_moveV (et (gS rfl g0) rfl)) ?_
      refine l_eff (e_callV cal_30 (aC (et g0 rfl) aN) (obs_WorldOK hF (hW.mono hL0) hlm)) (fun v5 w5 h5 => ?_)
      obtain ⟨t1, rfl, ht1, u5⟩ := h5
      replace G := G.tr (Go.ofUp hF u5)
      replace hF := hF.up u5
      replace k2 := k2.up u5
      replace U := U.tr u5
      refine l_step (y_not (et g0 rfl)) ?_
      refine l_step (y_moveV (et g0 rfl)) ?_
      refine gsplitL (i := 15) g0 (fun q6 => ?_) (fun q6 => ?_)
      · skip
        have hn : ¬ (WOk l ∧ e.hashes.length ≤ 4) := fun h9 => by have h8 := ht1.2 h9.1; rw [h8] at q6; cases q6
        refine l_gskip (j := 3) (t := 15) (by exact rfl) (by exact rfl) (et g0 rfl) (by decide) (by decide) ?_
        refine l_gskip (j := 3) (t := 15) (by exact rfl) (by exact rfl) (et (gS rfl g0) rfl) (by decide) (by decide) ?_
        refine l_gskip (j := 3) (t := 15) (by exact rfl) (by exact rfl) (et (gS rfl (gS rfl g0)) rfl) (by decide) (by decide) ?_
        refine l_step (y_pickT (et (gS rfl (gS rfl (gS rfl g0))) rfl) rfl) ?_
        refine l_nil ?_
        refine hK4 _ _ ?_
        refine fg3 0 3 19 (gS rfl (gS rfl (gS rfl (gS rfl (gS rfl (gS rfl (gS rfl (gS rfl (gS rfl (gS rfl g0)))))))))) (gS rfl (gS rfl (gS rfl (gS rfl (gS rfl (gS rfl (gS rfl (gS rfl (gS rfl g0))))))))) g0 (fun g => ?_)
        refine c_true (et g0 rfl) rfl ?_
        refine c_seq (fun K8 hK8 => ?_)
        exact (by
          refine c_region ?_
          refine l_step y_assignC ?_
          refine l_step y_assignC ?_
          refine l_nil ?_
          refine hK8 _ _ ?_
          refine fg2 4 5 (gS rfl g0) g0 (fun g => ?_)
          refine c_ret ?_
          repeat with_reducible refine then_ret ?_
          refine ret2 rfl (res_tmp (et (gS rfl g0) rfl)) (res_tmp (et g0 rfl)) ?_
          exact ⟨false, ⟨fun h9 => (by cases h9), fun h9 => absurd h9 hn⟩, fun _ => ⟨rfl, U⟩, fun h9 => (by cases h9)⟩)
      · skip
        have hok : WOk l := ht1.1 (by simpa using q6)
        refine l_gstep (j := 3) (t := 15) (by exact rfl) (by exact rfl) (et g0 rfl) (by decide) (y_loadB agg_31 sz_31 (et (gS rfl (gS rfl (gS rfl (gS rfl (gS rfl g0))))) rfl) (by rw [List.size_toArray, envC_len]) (at1B k2)) ?_
        refine l_geff (j := 3) (t := 15) (by exact rfl) (by exact rfl) (et (gS rfl g0) rfl) rfl (e_callV cal_27 (aC (et g0 rfl) aN) (obs_envOK _ _ _ _ _ (envC_h _ _))) (fun v9 w9 h9 => ?_)
        obtain ⟨rfl, u9⟩ := h9
        replace G := G.tr (Go.ofUp hF u9)
        replace hF := hF.up u9
        replace k2 := k2.up u9
        replace U := U.tr u9
        refine l_gstep (j := 3) (t := 15) (by exact rfl) (by exact rfl) (et (gS rfl (gS rfl g0)) rfl) (by decide) (y_not (et g0 rfl)) ?_
        refine l_step (y_pickF (et (gS rfl (gS rfl (gS rfl g0))) rfl) (et g0 rfl)) ?_
        refine l_nil ?_
        refine hK4 _ _ ?_
        refine fg3 0 3 19 (gS rfl (gS rfl (gS rfl (gS rfl (gS rfl (gS rfl (gS rfl (gS rfl (gS rfl (gS rfl g0)))))))))) (gS rfl (gS rfl (gS rfl (gS rfl (gS rfl (gS rfl (gS rfl (gS rfl (gS rfl g0))))))))) g0 (fun g => ?_)
        refine c_cond (et g0 rfl) (fun cB1 => ?_) (fun cB1 => ?_)
        · skip
          
          have hn : ¬ (WOk l ∧ e.hashes.length ≤ 4) := fun h9 => by simp at cB1; omega
          refine c_seq (fun K11 hK11 => ?_)
          exact (by
            refine c_region ?_
            refine l_step y_assignC ?_
            refine l_step y_assignC ?_
            refine l_nil ?_
            refine hK11 _ _ ?_
            refine fg2 4 5 (gS rfl g0) g0 (fun g => ?_)
            refine c_ret ?_
            repeat with_reducible refine then_ret ?_
            refine ret2 rfl (res_tmp (et (gS rfl g0) rfl)) (res_tmp (et g0 rfl)) ?_
            exact ⟨false, ⟨fun h9 => (by cases h9), fun h9 => absurd h9 hn⟩, fun _ => ⟨rfl, U⟩, fun h9 => (by cases h9)⟩)
        · skip
          
          have hh4 : e.hashes.length ≤ 4 := by simpa using cB1
          refine c_skip ?_
          refine hK3 _ _ ?_
          refine fg2 0 3 (gS rfl (gS rfl g0)) (gS rfl g0) (fun g => ?_)
          refine c_seq (fun K12 hK12 => ?_)
          exact (by
            refine c_region ?_
            refine l_eff (e_alloc zr_104) (fun v13 w13 h13 => ?_)
            obtain ⟨b13, rfl, n13⟩ := h13
            have d2_13 : b2 < b13 := Nat.lt_of_lt_of_le k2.lt n13.fresh
            have f13 : w.heap.size ≤ b13 := Nat.le_trans U.size n13.fresh
            have nb13 := hF.nb n13.fresh
            replace G := G.tr (Go.ofUp hF n13.up)
            replace hF := hF.up n13.up
            replace k2 := k2.up n13.up
            replace U := U.tr n13.up
            have k13 := n13.blk
            replace k13 : Blk w13 b13 (stC (.slice none 0 0) (.slice none 0 0) 0 env0 (.slice none 0 0)).toArray := by rw [stC_z]; exact k13
            refine l_step (y_assignV (et g0 rfl)) ?_
            refine l_nil ?_
            refine hK12 _ _ ?_
            refine fg3 0 3 6 (gS rfl (gS rfl (gS rfl g0))) (gS rfl (gS rfl g0)) g0 (fun g => ?_)
            refine c_seq (fun K14 hK14 => ?_)
            exact (by
              refine c_region ?_
              refine l_step (y_moveV (et g0 rfl)) ?_
              refine l_step (y_loadB agg_31 sz_31 (et (gS rfl (gS rfl g0)) rfl) (by rw [List.size_toArray, envC_len]) (at1B k2)) ?_
              refine l_step (y_nil (et (gS rfl g0) rfl)) ?_
              refine l_step (y_fld fld_104_0 (et g0 rfl)) ?_
              refine l_step (y_fld fld_102_14 (et g0 rfl)) ?_
              refine l_effN (e_store sz_31 (et g0 rfl) (cellsV (et (gS rfl (gS rfl (gS rfl g0))) rfl) rfl) (envC_len _ _) (by exact envC_one _ rfl) k13 (by (rw [List.size_toArray, stC_len]; first | decide | (rw [envC_len]; decide)))) (fun v15 w15 h15 => ?_)
              obtain ⟨rfl, x15⟩ := h15
              replace k2 := k2.ch x15.ch (by omega)
              replace k13 := x15.blk
              replace G := G.wr x15 (by first | exact .inr f13 | exact .inl rfl | omega | (simp; omega)) nb13
              replace hF := G.fz
              replace U := U.st x15 f13
              rw [stC_env rfl] at k13
              refine l_nil ?_
              refine hK14 _ _ ?_
              refine fg3 0 3 6 (gS rfl (gS rfl (gS rfl (gS rfl (gS rfl (gS rfl (gS rfl g0))))))) (gS rfl (gS rfl (gS rfl (gS rfl (gS rfl (gS rfl g0)))))) (gS rfl (gS rfl (gS rfl (gS rfl (gS rfl g0))))) (fun g => ?_)
              refine c_seq (fun K16 hK16 => ?_)
              exact (by
                refine c_region ?_
                refine l_step (y_moveV (et g0 rfl)) ?_
                refine l_step (y_fld fld_31_7 (et (gS rfl (gS rfl g0)) rfl)) ?_
                refine l_step (y_load1 one_29 (et g0 rfl) (at1 (k2.cell (envC_h _ _)))) ?_
                refine l_eff (e_callV cal_31 (aC (et g0 rfl) aN) (yp_wordsOf hF (hH.mono hL0) (by omega))) (fun v17 w17 h17 => ?_)
                obtain ⟨H17, g17, l917⟩ := h17
                have hlew17 := g17.le
                replace nb2 := g17.nb nb2 k2.lt
                replace nb13 := g17.nb nb13 k13.lt
                replace hL0 := hL0.trans hlew17
                replace k2 := k2.up g17.up
                replace k13 := k13.up g17.up
                replace U := U.tr g17.up
                replace G := G.tr g17
                replace hF := g17.fz
                obtain ⟨vha, vhc, rfl, _⟩ := l917.val
                refine l_step (y_nil (et (gS rfl (gS rfl (gS rfl g0))) rfl)) ?_
                refine l_step (y_fld fld_104_0 (et g0 rfl)) ?_
                refine l_step (y_fld fld_102_14 (et g0 rfl)) ?_
                refine l_step (y_fld fld_31_7 (et g0 rfl)) ?_
                refine l_effN (e_store sz_29 (et g0 rfl) (cellsV (et (gS rfl (gS rfl (gS rfl (gS rfl g0)))) rfl) rfl) rfl (by first | exact one_bL _ | exact one_uL _ | (intro v hv; simp at hv; subst hv; rfl)) k13 (by (rw [List.size_toArray, stC_len]; decide))) (fun v18 w18 h18 => ?_)
                obtain ⟨rfl, x18⟩ := h18
                replace k2 := k2.ch x18.ch (by omega)
                replace k13 := x18.blk
                replace G := G.wr x18 (by first | exact .inr f13 | exact .inl rfl | omega | (simp; omega)) nb13
                replace hF := G.fz
                replace U := U.st x18 f13
                rw [stC_h rfl] at k13
                refine l_nil ?_
                refine hK16 _ _ ?_
                refine fg2 0 6 (gS rfl (gS rfl (gS rfl (gS rfl (gS rfl (gS rfl (gS rfl (gS rfl (gS rfl (gS rfl g0)))))))))) (gS rfl (gS rfl (gS rfl (gS rfl (gS rfl (gS rfl (gS rfl (gS rfl g0)))))))) (fun g => ?_)
                refine c_seq (fun K19 hK19 => ?_)
                refine c_seq (fun K20 hK20 => ?_)
                exact (by
                  refine c_region ?_
                  refine l_step (y_moveV (et (gS rfl g0) rfl)) ?_
                  refine l_step (y_len Hvaa.underlying23 (et g0 rfl)) ?_
                  refine l_step y_moveC ?_
                  refine l_nil ?_
                  refine hK20 _ _ ?_
                  refine fg4 6 34 35 36 (gS rfl (gS rfl (gS rfl g0))) (gS rfl (gS rfl g0)) (gS rfl g0) g0 (fun g => ?_)
                  refine c_block (fun Q21 hQ21 => ?_)
                  refine fg4 6 34 35 36 (gS rfl (gS rfl (gS rfl g0))) (gS rfl (gS rfl g0)) (gS rfl g0) g0 (fun g => ?_)
                  obtain ⟨base, hbs⟩ : ∃ base, base = w18.heap.size := ⟨_, rfl⟩
                  have hbw : w.heap.size ≤ base := by rw [hbs]; exact U.size
                  have hlt6 : b13 < base := by rw [hbs]; exact k13.lt
                  have hlt3 : b2 < base := by rw [hbs]; exact k2.lt
                  refine c_loop (fun k_ s_ W22 => ∃ (g : Nat → Value) (Hk22 : Store) (va vt : Value) (rows : List (List Value)) (i : Nat), s_ = (upd (upd (upd (upd g 6 (.pointer (some ⟨b13, 0, none⟩))) 34 (.slice wa l.length wc)) 35 (.int .i64 (l.length : Nat))) 36 (.int .i64 (i : Nat))) ∧ l.length - i = k_ ∧ (i ≤ l.length) ∧ (GL P_raw H base 107 24 W22.heap.size W22 va rows) ∧ (RWs P_acct 24 Hk22 rows (l.take i)) ∧ (∀ q, some q = va.ownBlock → ¬ Hk22.has q) ∧ (NV Hk22 vt (sumB (l.take i))) ∧ Blk W22 b13 ((stC va vt 0 e (.slice vha e.hashes.length vhc)).toArray) ∧ Go (fun k => k = b13 ∨ base ≤ k) w18 H17 W22 Hk22) (l.length - (0)) ?_ ?_
                  · exact ⟨g, _, (.slice none 0 0), (.slice none 0 0), [], 0, rfl, rfl, Nat.zero_le _, GL.nil, RWs.nil _ _ _, (fun q hq => by cases hq), (by rw [show sumB (l.take 0) = 0 from rfl]; exact NV.nil _), k13, Go.refl hF⟩
                  · skip
                    intro k_ s_ W22 hI K22 hK22
                    obtain ⟨g, Hk22, va, vt, rows, i, rfl, rfl, hi9, hO, hRW, hnO, hTt, nk13, V22⟩ := hI
                    have hle22 := V22.le
                    replace nb2 := V22.nb nb2 k2.lt
                    replace nb13 := V22.nb nb13 k13.lt
                    replace l917 := l917.mono hle22
                    replace hL0 := hL0.trans hle22
                    replace G := G.trans V22 (by intro b hb; first | exact hb.elim | omega | (simp at hb ⊢; omega))
                    replace hF := V22.fz
                    replace k2 := k2.ch V22.ch (by omega)
                    replace k13 := nk13
                    replace U := U.cc V22.ch (by intro b hb; first | exact hb.elim | omega | (simp at hb ⊢; omega))
                    have hbW : base ≤ W22.heap.size := by rw [hbs]; exact V22.ch.size
                    refine c_seq (fun K23 hK23 => ?_)
                    exact (by
                      refine c_region ?_
                      refine l_step (y_lss (et g0 rfl) (et (gS rfl g0) rfl)) ?_
                      refine l_nil ?_
                      refine hK23 _ _ ?_
                      refine c_seq (fun K24 hK24 => ?_)
                      refine c_cond (et g0 rfl) (fun cB2 => ?_) (fun cB2 => ?_)
                      · skip
                        
                        have hil : i < l.length := by have := of_decide_eq_true cB2; omega
                        refine c_skip ?_
                        refine hK24 _ _ ?_
                        refine fg4 6 34 35 36 (gS rfl (gS rfl (gS rfl (gS rfl g0)))) (gS rfl (gS rfl (gS rfl g0))) (gS rfl (gS rfl g0)) (gS rfl g0) (fun g => ?_)
                        refine c_seq (fun K26 hK26 => ?_)
                        refine c_block (fun Q27 hQ27 => ?_)
                        refine c_seq (fun K28 hK28 => ?_)
                        exact (by
                          refine c_region ?_
                          have Vi29 : Go (fun k => base ≤ k) W22 Hk22 W22 Hk22 := Go.refl hF
                          obtain ⟨Bw, hBw⟩ : ∃ Bw, Bw = W22.heap.size := ⟨_, rfl⟩
                          rw [← hBw] at hO
                          have hBb : base ≤ Bw := by rw [hBw]; exact hbW
                          obtain ⟨bq, oq, r, ha0, hrow, hrl, vc1, vs1, hr1, hal, hcd1, hvs, hb21, hb22⟩ := (hW.mono hL0).row hF (i := i) hil
                          rw [hr1] at hrow hrl
                          obtain ⟨sva, svc, rfl, hsv1, hsv2⟩ := hvs.val
                          obtain ⟨cda, cdc, rfl, hcl9⟩ := hcd1.sv.val
                          have hAk := hok.acct _ (List.getElem_mem hil)
                          have hcl8 := hAk.code
                          have hsl8 := hAk.slots
                          refine l_step (y_idxSa ha0 Hvaa.underlying23 sz_113 (et (gS rfl (gS rfl g0)) rfl) (et g0 rfl) ?_) ?_
                          omega
                          refine l_step (y_loadR agg_113 sz_113 (et g0 rfl) hrl (at1R hrow)) ?_
                          refine l_eff (e_alloc zr_113) (fun v30 w30 h30 => ?_)
                          obtain ⟨b30, rfl, n30⟩ := h30
                          have d2_30 : b2 < b30 := Nat.lt_of_lt_of_le k2.lt n30.fresh
                          have d13_30 : b13 < b30 := Nat.lt_of_lt_of_le k13.lt n30.fresh
                          have f30 : w.heap.size ≤ b30 := Nat.le_trans U.size n30.fresh
                          have nb30 := hF.nb n30.fresh
                          have fV22_30 := Nat.le_trans V22.ch.size n30.fresh
                          have fVi29_30 := Nat.le_trans Vi29.ch.size n30.fresh
                          replace G := G.tr (Go.ofUp hF n30.up)
                          replace V22 := V22.tr (Go.ofUp hF n30.up)
                          replace Vi29 := Vi29.tr (Go.ofUp hF n30.up)
                          replace hF := hF.up n30.up
                          replace k2 := k2.up n30.up
                          replace k13 := k13.up n30.up
                          replace hO := hO.up n30.up
                          replace U := U.tr n30.up
                          have k30 := n30.blk
                          exact (by
                            refine l_effN (e_store sz_113 (et g0 rfl) (cellsV (et (gS rfl g0) rfl) rfl) hrl (by exact oaC_one rfl rfl) k30 (by exact Nat.le_of_ble_eq_true rfl)) (fun v31 w31 h31 => ?_)
                            obtain ⟨rfl, x31⟩ := h31
                            replace k2 := k2.ch x31.ch (by omega)
                            replace k13 := k13.ch x31.ch (by omega)
                            replace k30 := x31.blk.full (by rw [hrl]; rfl)
                            replace hO := hO.wr x31 (by first | omega | (right; omega))
                            replace G := G.wr x31 (by first | exact .inr f30 | exact .inl rfl | omega | (simp; omega)) nb30
                            replace V22 := V22.wr x31 (by first | exact .inr f30 | exact .inl rfl | omega | (simp; omega)) nb30
                            replace Vi29 := Vi29.wr x31 (by first | exact .inr f30 | exact .inl rfl | omega | (simp; omega)) nb30
                            replace hF := G.fz
                            replace U := U.st x31 f30
                            refine l_nil ?_
                            refine hK28 _ _ ?_
                            refine fg5 6 34 35 36 8 (gS rfl (gS rfl (gS rfl (gS rfl (gS rfl (gS rfl g0)))))) (gS rfl (gS rfl (gS rfl (gS rfl (gS rfl g0))))) (gS rfl (gS rfl (gS rfl (gS rfl g0)))) (gS rfl (gS rfl (gS rfl g0))) g0 (fun g => ?_)
                            refine c_seq (fun K32 hK32 => ?_)
                            exact (by
                              refine fgv5 6 8 34 35 36 (gS rfl (gS rfl (gS rfl (gS rfl g0)))) g0 (gS rfl (gS rfl (gS rfl g0))) (gS rfl (gS rfl g0)) (gS rfl g0) (fun g z6 z8 z34 z35 z36 e6 e8 e34 e35 e36 => ?_)
                              refine c_drawJ (fun s_ w_ => ∃ (g : Nat → Value) (b34 : Nat) (vn vb : Value) (qa : Option Addr) (qc : Nat) (Hj33 : Store), s_ = (upd (upd (upd (upd (upd (upd g 6 z6) 8 z8) 9 (.pointer (some ⟨b34, 0, none⟩))) 34 z34) 35 z35) 36 z36) ∧ Go No w31 Hk22 w_ Hj33 ∧ w31.heap.size ≤ b34 ∧ Blk w_ b34 ((bL (be 20 l[i].addr) ++ [vn, vb, .slice qa l[i].code.length qc, .slice none 0 0]).toArray) ∧ ¬ Hj33.has b34 ∧ (NV Hj33 vn l[i].nonce) ∧ (NV Hj33 vb l[i].bal) ∧ (BV Hj33 (.slice qa l[i].code.length qc) l[i].code)) Up 13 (.pure 0 (.pure 1 (.pure 2 (.pure 3 (.pure 5 (.pure 6 (.pure 8 (.pure 9 (.two 4 (.two 7 (.two 10 (.pure 11 (.eff 12 (.eff 13 .fin))) 12 (.eff 10 (.pure 11 (.eff 13 .fin)))) 12 (.eff 7 (.eff 10 (.pure 11 (.eff 13 .fin))))) 12 (.eff 4 (.eff 7 (.eff 10 (.pure 11 (.eff 13 .fin)))))))))))))) (by kernel_rfl) (fun w35 hu => ⟨Up.refl _, ?_⟩) ?_
                              · skip
                                subst e6 e8 e34 e35 e36
                                replace G := G.tr (Go.ofUp hF hu)
                                replace V22 := V22.tr (Go.ofUp hF hu)
                                replace Vi29 := Vi29.tr (Go.ofUp hF hu)
                                replace hF := hF.up hu
                                replace k2 := k2.up hu
                                replace k13 := k13.up hu
                                replace k30 := k30.up hu
                                replace hO := hO.up hu
                                replace U := U.tr hu
                                have SU := Up.refl w35
                                have V33 : Go No w31 Hk22 w35 Hk22 := ⟨hu, hF, Le.refl _, fun _ h => .inl h⟩
                                refine t_step (by exact rfl) (y_fld fld_113_0 (et (gS rfl (gS rfl (gS rfl g0))) rfl)) ?_
                                refine t_step (by exact rfl) (y_loadR agg_25 sz_25 (et g0 rfl) (by rw [length_bL, length_be]) (atSR (k30.row oaC_adr))) ?_
                                refine t_step (by exact rfl) (y_fld fld_113_1 (et (gS rfl (gS rfl (gS rfl (gS rfl (gS rfl g0))))) rfl)) ?_
                                refine t_step (by exact rfl) (y_load1 one_26 (et g0 rfl) (atS (k30.cell oaC_non))) ?_
                                refine t_step (by exact rfl) (y_fld fld_113_2 (et (gS rfl (gS rfl (gS rfl (gS rfl (gS rfl (gS rfl (gS rfl g0))))))) rfl)) ?_
                                refine t_step (by exact rfl) (y_slA000 Hvaa.underlying28 sz_5 (et g0 rfl) ) ?_
                                refine t_step (by exact rfl) (y_fld fld_113_3 (et (gS rfl (gS rfl (gS rfl (gS rfl (gS rfl (gS rfl (gS rfl (gS rfl (gS rfl g0))))))))) rfl)) ?_
                                refine t_step (by exact rfl) (y_load1 one_38 (et g0 rfl) (atS (k30.cell oaC_cod))) ?_
                                refine t_two ?_ ?_
                                · skip
                                  refine t_eff (by exact rfl) (e_callV cal_32 (aC (et (gS rfl (gS rfl (gS rfl (gS rfl g0)))) rfl) aN) (yp_num hF hb21)) (fun v36 w36 h36 => ?_)
                                  obtain ⟨H36, g36, n936⟩ := h36
                                  have hlew36 := g36.le
                                  replace nb2 := g36.nb nb2 k2.lt
                                  replace nb13 := g36.nb nb13 k13.lt
                                  replace nb30 := g36.nb nb30 k30.lt
                                  replace l917 := l917.mono hlew36
                                  replace hRW := hRW.mono hlew36
                                  replace hTt := hTt.mono hlew36
                                  replace hcd1 := hcd1.mono hlew36
                                  replace hvs := hvs.mono hlew36
                                  replace hL0 := hL0.trans hlew36
                                  replace k2 := k2.up g36.up
                                  replace k13 := k13.up g36.up
                                  replace k30 := k30.up g36.up
                                  replace hO := hO.up g36.up
                                  replace U := U.tr g36.up
                                  replace G := G.tr g36
                                  replace V22 := V22.tr g36
                                  replace Vi29 := Vi29.tr g36
                                  replace V33 := V33.tr g36
                                  replace hF := g36.fz
                                  refine ⟨.inr (SU.tr g36.up), ?_⟩
                                  replace SU := SU.tr g36.up
                                  refine t_two ?_ ?_
                                  · skip
                                    refine t_eff (by exact rfl) (e_callV cal_33 (aC (et (gS rfl (gS rfl (gS rfl g0))) rfl) aN) (nat_fromRow hF (k30.row oaC_bal) k30.lt hb22 (by decide))) (fun v37 w37 h37 => ?_)
                                    obtain ⟨H37, g37, n937⟩ := h37
                                    have hlew37 := g37.le
                                    replace nb2 := g37.nb nb2 k2.lt
                                    replace nb13 := g37.nb nb13 k13.lt
                                    replace nb30 := g37.nb nb30 k30.lt
                                    replace l917 := l917.mono hlew37
                                    replace hRW := hRW.mono hlew37
                                    replace hTt := hTt.mono hlew37
                                    replace hcd1 := hcd1.mono hlew37
                                    replace hvs := hvs.mono hlew37
                                    replace n936 := n936.mono hlew37
                                    replace hL0 := hL0.trans hlew37
                                    replace k2 := k2.up g37.up
                                    replace k13 := k13.up g37.up
                                    replace k30 := k30.up g37.up
                                    replace hO := hO.up g37.up
                                    replace U := U.tr g37.up
                                    replace G := G.tr g37
                                    replace V22 := V22.tr g37
                                    replace Vi29 := Vi29.tr g37
                                    replace V33 := V33.tr g37
                                    replace hF := g37.fz
                                    refine ⟨.inr (SU.tr g37.up), ?_⟩
                                    replace SU := SU.tr g37.up
                                    refine t_two ?_ ?_
                                    · skip
                                      refine t_eff (by exact rfl) (e_callV cal_26 (aC (et (gS rfl (gS rfl g0)) rfl) aN) (yp_bytes hF hcd1 (by omega))) (fun v38 w38 h38 => ?_)
                                      obtain ⟨H38, g38, b938⟩ := h38
                                      have hlew38 := g38.le
                                      replace nb2 := g38.nb nb2 k2.lt
                                      replace nb13 := g38.nb nb13 k13.lt
                                      replace nb30 := g38.nb nb30 k30.lt
                                      replace l917 := l917.mono hlew38
                                      replace hRW := hRW.mono hlew38
                                      replace hTt := hTt.mono hlew38
                                      replace hcd1 := hcd1.mono hlew38
                                      replace hvs := hvs.mono hlew38
                                      replace n936 := n936.mono hlew38
                                      replace n937 := n937.mono hlew38
                                      replace hL0 := hL0.trans hlew38
                                      replace k2 := k2.up g38.up
                                      replace k13 := k13.up g38.up
                                      replace k30 := k30.up g38.up
                                      replace hO := hO.up g38.up
                                      replace U := U.tr g38.up
                                      replace G := G.tr g38
                                      replace V22 := V22.tr g38
                                      replace Vi29 := Vi29.tr g38
                                      replace V33 := V33.tr g38
                                      replace hF := g38.fz
                                      obtain ⟨za, zc, rfl, hzl⟩ := b938.sv.val
                                      refine ⟨.inr (SU.tr g38.up), ?_⟩
                                      replace SU := SU.tr g38.up
                                      refine t_step (by exact rfl) (y_bld (bC (et (gS rfl (gS rfl (gS rfl (gS rfl (gS rfl (gS rfl (gS rfl (gS rfl (gS rfl g0))))))))) rfl) (bC (et (gS rfl (gS rfl g0)) rfl) (bC (et (gS rfl g0) rfl) (bC (et g0 rfl) bN)))) (bld_ac n936.one1 n937.one1 rfl)) ?_
                                      refine t_one ?_
                                      refine t_eff (by exact rfl) (e_alloc zr_107) (fun v39 w39 h39 => ?_)
                                      obtain ⟨b39, rfl, n39⟩ := h39
                                      have d2_39 : b2 < b39 := Nat.lt_of_lt_of_le k2.lt n39.fresh
                                      have d13_39 : b13 < b39 := Nat.lt_of_lt_of_le k13.lt n39.fresh
                                      have d30_39 : b30 < b39 := Nat.lt_of_lt_of_le k30.lt n39.fresh
                                      have f39 : w.heap.size ≤ b39 := Nat.le_trans U.size n39.fresh
                                      have nb39 := hF.nb n39.fresh
                                      have fS39 := Nat.le_trans SU.size n39.fresh
                                      have fV22_39 := Nat.le_trans V22.ch.size n39.fresh
                                      have fVi29_39 := Nat.le_trans Vi29.ch.size n39.fresh
                                      have fV33_39 := Nat.le_trans V33.ch.size n39.fresh
                                      replace G := G.tr (Go.ofUp hF n39.up)
                                      replace V22 := V22.tr (Go.ofUp hF n39.up)
                                      replace Vi29 := Vi29.tr (Go.ofUp hF n39.up)
                                      replace V33 := V33.tr (Go.ofUp hF n39.up)
                                      replace hF := hF.up n39.up
                                      replace k2 := k2.up n39.up
                                      replace k13 := k13.up n39.up
                                      replace k30 := k30.up n39.up
                                      replace hO := hO.up n39.up
                                      replace U := U.tr n39.up
                                      have k39 := n39.blk
                                      refine ⟨.inr (SU.tr n39.up), ?_⟩
                                      replace SU := SU.tr n39.up
                                      refine t_one ?_
                                      refine t_effN (by exact rfl) (e_store sz_107 (et g0 rfl) (cellsV (et (gS rfl g0) rfl) rfl) ac_len (by exact one_app (one_four n936.one1 n937.one1 rfl rfl)) k39 (by exact Nat.le_of_ble_eq_true rfl)) (fun v40 w40 h40 => ?_)
                                      obtain ⟨rfl, x40⟩ := h40
                                      replace k2 := k2.ch x40.ch (by omega)
                                      replace k13 := k13.ch x40.ch (by omega)
                                      replace k30 := k30.ch x40.ch (by omega)
                                      replace k39 := x40.blk.full (by rw [ac_len]; rfl)
                                      replace hO := hO.wr x40 (by first | omega | (right; omega))
                                      replace G := G.wr x40 (by first | exact .inr f39 | exact .inl rfl | omega | (simp; omega)) nb39
                                      replace V22 := V22.wr x40 (by first | exact .inr f39 | exact .inl rfl | omega | (simp; omega)) nb39
                                      replace Vi29 := Vi29.wr x40 (by first | exact .inr f39 | exact .inl rfl | omega | (simp; omega)) nb39
                                      replace V33 := V33.wr x40 (by first | exact .inr f39 | exact .inl rfl | omega | (simp; omega)) nb39
                                      replace hF := G.fz
                                      replace U := U.st x40 f39
                                      refine ⟨.inl rfl, ?_⟩
                                      refine tl6 6 8 9 34 35 36 (gS rfl (gS rfl (gS rfl (gS rfl (gS rfl (gS rfl (gS rfl (gS rfl (gS rfl (gS rfl (gS rfl (gS rfl (gS rfl (gS rfl (gS rfl (gS rfl (gS rfl g0))))))))))))))))) (gS rfl (gS rfl (gS rfl (gS rfl (gS rfl (gS rfl (gS rfl (gS rfl (gS rfl (gS rfl (gS rfl (gS rfl (gS rfl (gS rfl (gS rfl (gS rfl g0)))))))))))))))) g0 (gS rfl (gS rfl (gS rfl (gS rfl (gS rfl (gS rfl (gS rfl (gS rfl (gS rfl (gS rfl (gS rfl (gS rfl (gS rfl (gS rfl (gS rfl g0))))))))))))))) (gS rfl (gS rfl (gS rfl (gS rfl (gS rfl (gS rfl (gS rfl (gS rfl (gS rfl (gS rfl (gS rfl (gS rfl (gS rfl (gS rfl g0)))))))))))))) (gS rfl (gS rfl (gS rfl (gS rfl (gS rfl (gS rfl (gS rfl (gS rfl (gS rfl (gS rfl (gS rfl (gS rfl (gS rfl g0))))))))))))) (fun g => ?_)
                                      exact ⟨g, _, _, _, _, _, _, rfl, V33, Nat.le_trans hu.size fS39, k39, nb39, n936, n937, b938⟩
                                    · skip
                                      refine t_eff (by exact rfl) (e_alloc zr_107) (fun v41 w41 h41 => ?_)
                                      obtain ⟨b41, rfl, n41⟩ := h41
                                      have d2_41 : b2 < b41 := Nat.lt_of_lt_of_le k2.lt n41.fresh
                                      have d13_41 : b13 < b41 := Nat.lt_of_lt_of_le k13.lt n41.fresh
                                      have d30_41 : b30 < b41 := Nat.lt_of_lt_of_le k30.lt n41.fresh
                                      have f41 : w.heap.size ≤ b41 := Nat.le_trans U.size n41.fresh
                                      have nb41 := hF.nb n41.fresh
                                      have fS41 := Nat.le_trans SU.size n41.fresh
                                      have fV22_41 := Nat.le_trans V22.ch.size n41.fresh
                                      have fVi29_41 := Nat.le_trans Vi29.ch.size n41.fresh
                                      have fV33_41 := Nat.le_trans V33.ch.size n41.fresh
                                      replace G := G.tr (Go.ofUp hF n41.up)
                                      replace V22 := V22.tr (Go.ofUp hF n41.up)
                                      replace Vi29 := Vi29.tr (Go.ofUp hF n41.up)
                                      replace V33 := V33.tr (Go.ofUp hF n41.up)
                                      replace hF := hF.up n41.up
                                      replace k2 := k2.up n41.up
                                      replace k13 := k13.up n41.up
                                      replace k30 := k30.up n41.up
                                      replace hO := hO.up n41.up
                                      replace U := U.tr n41.up
                                      have k41 := n41.blk
                                      refine ⟨.inr (SU.tr n41.up), ?_⟩
                                      replace SU := SU.tr n41.up
                                      refine t_one ?_
                                      refine t_eff (by exact rfl) (e_callV cal_26 (aC (et (gS rfl (gS rfl (gS rfl g0))) rfl) aN) (yp_bytes hF hcd1 (by omega))) (fun v42 w42 h42 => ?_)
                                      obtain ⟨H42, g42, b942⟩ := h42
                                      have hlew42 := g42.le
                                      replace nb2 := g42.nb nb2 k2.lt
                                      replace nb13 := g42.nb nb13 k13.lt
                                      replace nb30 := g42.nb nb30 k30.lt
                                      replace nb41 := g42.nb nb41 k41.lt
                                      replace l917 := l917.mono hlew42
                                      replace hRW := hRW.mono hlew42
                                      replace hTt := hTt.mono hlew42
                                      replace hcd1 := hcd1.mono hlew42
                                      replace hvs := hvs.mono hlew42
                                      replace n936 := n936.mono hlew42
                                      replace n937 := n937.mono hlew42
                                      replace hL0 := hL0.trans hlew42
                                      replace k2 := k2.up g42.up
                                      replace k13 := k13.up g42.up
                                      replace k30 := k30.up g42.up
                                      replace k41 := k41.up g42.up
                                      replace hO := hO.up g42.up
                                      replace U := U.tr g42.up
                                      replace G := G.tr g42
                                      replace V22 := V22.tr g42
                                      replace Vi29 := Vi29.tr g42
                                      replace V33 := V33.tr g42
                                      replace hF := g42.fz
                                      obtain ⟨za, zc, rfl, hzl⟩ := b942.sv.val
                                      refine ⟨.inr (SU.tr g42.up), ?_⟩
                                      replace SU := SU.tr g42.up
                                      refine t_step (by exact rfl) (y_bld (bC (et (gS rfl (gS rfl (gS rfl (gS rfl (gS rfl (gS rfl (gS rfl (gS rfl (gS rfl (gS rfl g0)))))))))) rfl) (bC (et (gS rfl (gS rfl (gS rfl g0))) rfl) (bC (et (gS rfl (gS rfl g0)) rfl) (bC (et g0 rfl) bN)))) (bld_ac n936.one1 n937.one1 rfl)) ?_
                                      refine t_one ?_
                                      refine t_effN (by exact rfl) (e_store sz_107 (et (gS rfl (gS rfl g0)) rfl) (cellsV (et g0 rfl) rfl) ac_len (by exact one_app (one_four n936.one1 n937.one1 rfl rfl)) k41 (by exact Nat.le_of_ble_eq_true rfl)) (fun v43 w43 h43 => ?_)
                                      obtain ⟨rfl, x43⟩ := h43
                                      replace k2 := k2.ch x43.ch (by omega)
                                      replace k13 := k13.ch x43.ch (by omega)
                                      replace k30 := k30.ch x43.ch (by omega)
                                      replace k41 := x43.blk.full (by rw [ac_len]; rfl)
                                      replace hO := hO.wr x43 (by first | omega | (right; omega))
                                      replace G := G.wr x43 (by first | exact .inr f41 | exact .inl rfl | omega | (simp; omega)) nb41
                                      replace V22 := V22.wr x43 (by first | exact .inr f41 | exact .inl rfl | omega | (simp; omega)) nb41
                                      replace Vi29 := Vi29.wr x43 (by first | exact .inr f41 | exact .inl rfl | omega | (simp; omega)) nb41
                                      replace V33 := V33.wr x43 (by first | exact .inr f41 | exact .inl rfl | omega | (simp; omega)) nb41
                                      replace hF := G.fz
                                      replace U := U.st x43 f41
                                      refine ⟨.inl rfl, ?_⟩
                                      refine tl6 6 8 9 34 35 36 (gS rfl (gS rfl (gS rfl (gS rfl (gS rfl (gS rfl (gS rfl (gS rfl (gS rfl (gS rfl (gS rfl (gS rfl (gS rfl (gS rfl (gS rfl (gS rfl (gS rfl g0))))))))))))))))) (gS rfl (gS rfl (gS rfl (gS rfl (gS rfl (gS rfl (gS rfl (gS rfl (gS rfl (gS rfl (gS rfl (gS rfl (gS rfl (gS rfl (gS rfl (gS rfl g0)))))))))))))))) (gS rfl (gS rfl g0)) (gS rfl (gS rfl (gS rfl (gS rfl (gS rfl (gS rfl (gS rfl (gS rfl (gS rfl (gS rfl (gS rfl (gS rfl (gS rfl (gS rfl (gS rfl g0))))))))))))))) (gS rfl (gS rfl (gS rfl (gS rfl (gS rfl (gS rfl (gS rfl (gS rfl (gS rfl (gS rfl (gS rfl (gS rfl (gS rfl (gS rfl g0)))))))))))))) (gS rfl (gS rfl (gS rfl (gS rfl (gS rfl (gS rfl (gS rfl (gS rfl (gS rfl (gS rfl (gS rfl (gS rfl (gS rfl g0))))))))))))) (fun g => ?_)
                                      exact ⟨g, _, _, _, _, _, _, rfl, V33, Nat.le_trans hu.size fS41, k41, nb41, n936, n937, b942⟩
                                  · skip
                                    refine t_eff (by exact rfl) (e_alloc zr_107) (fun v44 w44 h44 => ?_)
                                    obtain ⟨b44, rfl, n44⟩ := h44
                                    have d2_44 : b2 < b44 := Nat.lt_of_lt_of_le k2.lt n44.fresh
                                    have d13_44 : b13 < b44 := Nat.lt_of_lt_of_le k13.lt n44.fresh
                                    have d30_44 : b30 < b44 := Nat.lt_of_lt_of_le k30.lt n44.fresh
                                    have f44 : w.heap.size ≤ b44 := Nat.le_trans U.size n44.fresh
                                    have nb44 := hF.nb n44.fresh
                                    have fS44 := Nat.le_trans SU.size n44.fresh
                                    have fV22_44 := Nat.le_trans V22.ch.size n44.fresh
                                    have fVi29_44 := Nat.le_trans Vi29.ch.size n44.fresh
                                    have fV33_44 := Nat.le_trans V33.ch.size n44.fresh
                                    replace G := G.tr (Go.ofUp hF n44.up)
                                    replace V22 := V22.tr (Go.ofUp hF n44.up)
                                    replace Vi29 := Vi29.tr (Go.ofUp hF n44.up)
                                    replace V33 := V33.tr (Go.ofUp hF n44.up)
                                    replace hF := hF.up n44.up
                                    replace k2 := k2.up n44.up
                                    replace k13 := k13.up n44.up
                                    replace k30 := k30.up n44.up
                                    replace hO := hO.up n44.up
                                    replace U := U.tr n44.up
                                    have k44 := n44.blk
                                    refine ⟨.inr (SU.tr n44.up), ?_⟩
                                    replace SU := SU.tr n44.up
                                    refine t_one ?_
                                    refine t_eff (by exact rfl) (e_callV cal_33 (aC (et (gS rfl (gS rfl (gS rfl (gS rfl g0)))) rfl) aN) (nat_fromRow hF (k30.row oaC_bal) k30.lt hb22 (by decide))) (fun v45 w45 h45 => ?_)
                                    obtain ⟨H45, g45, n945⟩ := h45
                                    have hlew45 := g45.le
                                    replace nb2 := g45.nb nb2 k2.lt
                                    replace nb13 := g45.nb nb13 k13.lt
                                    replace nb30 := g45.nb nb30 k30.lt
                                    replace nb44 := g45.nb nb44 k44.lt
                                    replace l917 := l917.mono hlew45
                                    replace hRW := hRW.mono hlew45
                                    replace hTt := hTt.mono hlew45
                                    replace hcd1 := hcd1.mono hlew45
                                    replace hvs := hvs.mono hlew45
                                    replace n936 := n936.mono hlew45
                                    replace hL0 := hL0.trans hlew45
                                    replace k2 := k2.up g45.up
                                    replace k13 := k13.up g45.up
                                    replace k30 := k30.up g45.up
                                    replace k44 := k44.up g45.up
                                    replace hO := hO.up g45.up
                                    replace U := U.tr g45.up
                                    replace G := G.tr g45
                                    replace V22 := V22.tr g45
                                    replace Vi29 := Vi29.tr g45
                                    replace V33 := V33.tr g45
                                    replace hF := g45.fz
                                    refine ⟨.inr (SU.tr g45.up), ?_⟩
                                    replace SU := SU.tr g45.up
                                    refine t_one ?_
                                    refine t_eff (by exact rfl) (e_callV cal_26 (aC (et (gS rfl (gS rfl (gS rfl g0))) rfl) aN) (yp_bytes hF hcd1 (by omega))) (fun v46 w46 h46 => ?_)
                                    obtain ⟨H46, g46, b946⟩ := h46
                                    have hlew46 := g46.le
                                    replace nb2 := g46.nb nb2 k2.lt
                                    replace nb13 := g46.nb nb13 k13.lt
                                    replace nb30 := g46.nb nb30 k30.lt
                                    replace nb44 := g46.nb nb44 k44.lt
                                    replace l917 := l917.mono hlew46
                                    replace hRW := hRW.mono hlew46
                                    replace hTt := hTt.mono hlew46
                                    replace hcd1 := hcd1.mono hlew46
                                    replace hvs := hvs.mono hlew46
                                    replace n936 := n936.mono hlew46
                                    replace n945 := n945.mono hlew46
                                    replace hL0 := hL0.trans hlew46
                                    replace k2 := k2.up g46.up
                                    replace k13 := k13.up g46.up
                                    replace k30 := k30.up g46.up
                                    replace k44 := k44.up g46.up
                                    replace hO := hO.up g46.up
                                    replace U := U.tr g46.up
                                    replace G := G.tr g46
                                    replace V22 := V22.tr g46
                                    replace Vi29 := Vi29.tr g46
                                    replace V33 := V33.tr g46
                                    replace hF := g46.fz
                                    obtain ⟨za, zc, rfl, hzl⟩ := b946.sv.val
                                    refine ⟨.inr (SU.tr g46.up), ?_⟩
                                    replace SU := SU.tr g46.up
                                    refine t_step (by exact rfl) (y_bld (bC (et (gS rfl (gS rfl (gS rfl (gS rfl (gS rfl (gS rfl (gS rfl (gS rfl (gS rfl (gS rfl g0)))))))))) rfl) (bC (et (gS rfl (gS rfl (gS rfl g0))) rfl) (bC (et (gS rfl g0) rfl) (bC (et g0 rfl) bN)))) (bld_ac n936.one1 n945.one1 rfl)) ?_
                                    refine t_one ?_
                                    refine t_effN (by exact rfl) (e_store sz_107 (et (gS rfl (gS rfl (gS rfl g0))) rfl) (cellsV (et g0 rfl) rfl) ac_len (by exact one_app (one_four n936.one1 n945.one1 rfl rfl)) k44 (by exact Nat.le_of_ble_eq_true rfl)) (fun v47 w47 h47 => ?_)
                                    obtain ⟨rfl, x47⟩ := h47
                                    replace k2 := k2.ch x47.ch (by omega)
                                    replace k13 := k13.ch x47.ch (by omega)
                                    replace k30 := k30.ch x47.ch (by omega)
                                    replace k44 := x47.blk.full (by rw [ac_len]; rfl)
                                    replace hO := hO.wr x47 (by first | omega | (right; omega))
                                    replace G := G.wr x47 (by first | exact .inr f44 | exact .inl rfl | omega | (simp; omega)) nb44
                                    replace V22 := V22.wr x47 (by first | exact .inr f44 | exact .inl rfl | omega | (simp; omega)) nb44
                                    replace Vi29 := Vi29.wr x47 (by first | exact .inr f44 | exact .inl rfl | omega | (simp; omega)) nb44
                                    replace V33 := V33.wr x47 (by first | exact .inr f44 | exact .inl rfl | omega | (simp; omega)) nb44
                                    replace hF := G.fz
                                    replace U := U.st x47 f44
                                    refine ⟨.inl rfl, ?_⟩
                                    refine tl6 6 8 9 34 35 36 (gS rfl (gS rfl (gS rfl (gS rfl (gS rfl (gS rfl (gS rfl (gS rfl (gS rfl (gS rfl (gS rfl (gS rfl (gS rfl (gS rfl (gS rfl (gS rfl (gS rfl g0))))))))))))))))) (gS rfl (gS rfl (gS rfl (gS rfl (gS rfl (gS rfl (gS rfl (gS rfl (gS rfl (gS rfl (gS rfl (gS rfl (gS rfl (gS rfl (gS rfl (gS rfl g0)))))))))))))))) (gS rfl (gS rfl (gS rfl g0))) (gS rfl (gS rfl (gS rfl (gS rfl (gS rfl (gS rfl (gS rfl (gS rfl (gS rfl (gS rfl (gS rfl (gS rfl (gS rfl (gS rfl (gS rfl g0))))))))))))))) (gS rfl (gS rfl (gS rfl (gS rfl (gS rfl (gS rfl (gS rfl (gS rfl (gS rfl (gS rfl (gS rfl (gS rfl (gS rfl (gS rfl g0)))))))))))))) (gS rfl (gS rfl (gS rfl (gS rfl (gS rfl (gS rfl (gS rfl (gS rfl (gS rfl (gS rfl (gS rfl (gS rfl (gS rfl g0))))))))))))) (fun g => ?_)
                                    exact ⟨g, _, _, _, _, _, _, rfl, V33, Nat.le_trans hu.size fS44, k44, nb44, n936, n945, b946⟩
                                · skip
                                  refine t_eff (by exact rfl) (e_alloc zr_107) (fun v48 w48 h48 => ?_)
                                  obtain ⟨b48, rfl, n48⟩ := h48
                                  have d2_48 : b2 < b48 := Nat.lt_of_lt_of_le k2.lt n48.fresh
                                  have d13_48 : b13 < b48 := Nat.lt_of_lt_of_le k13.lt n48.fresh
                                  have d30_48 : b30 < b48 := Nat.lt_of_lt_of_le k30.lt n48.fresh
                                  have f48 : w.heap.size ≤ b48 := Nat.le_trans U.size n48.fresh
                                  have nb48 := hF.nb n48.fresh
                                  have fS48 := Nat.le_trans SU.size n48.fresh
                                  have fV22_48 := Nat.le_trans V22.ch.size n48.fresh
                                  have fVi29_48 := Nat.le_trans Vi29.ch.size n48.fresh
                                  have fV33_48 := Nat.le_trans V33.ch.size n48.fresh
                                  replace G := G.tr (Go.ofUp hF n48.up)
                                  replace V22 := V22.tr (Go.ofUp hF n48.up)
                                  replace Vi29 := Vi29.tr (Go.ofUp hF n48.up)
                                  replace V33 := V33.tr (Go.ofUp hF n48.up)
                                  replace hF := hF.up n48.up
                                  replace k2 := k2.up n48.up
                                  replace k13 := k13.up n48.up
                                  replace k30 := k30.up n48.up
                                  replace hO := hO.up n48.up
                                  replace U := U.tr n48.up
                                  have k48 := n48.blk
                                  refine ⟨.inr (SU.tr n48.up), ?_⟩
                                  replace SU := SU.tr n48.up
                                  refine t_one ?_
                                  refine t_eff (by exact rfl) (e_callV cal_32 (aC (et (gS rfl (gS rfl (gS rfl (gS rfl (gS rfl g0))))) rfl) aN) (yp_num hF hb21)) (fun v49 w49 h49 => ?_)
                                  obtain ⟨H49, g49, n949⟩ := h49
                                  have hlew49 := g49.le
                                  replace nb2 := g49.nb nb2 k2.lt
                                  replace nb13 := g49.nb nb13 k13.lt
                                  replace nb30 := g49.nb nb30 k30.lt
                                  replace nb48 := g49.nb nb48 k48.lt
                                  replace l917 := l917.mono hlew49
                                  replace hRW := hRW.mono hlew49
                                  replace hTt := hTt.mono hlew49
                                  replace hcd1 := hcd1.mono hlew49
                                  replace hvs := hvs.mono hlew49
                                  replace hL0 := hL0.trans hlew49
                                  replace k2 := k2.up g49.up
                                  replace k13 := k13.up g49.up
                                  replace k30 := k30.up g49.up
                                  replace k48 := k48.up g49.up
                                  replace hO := hO.up g49.up
                                  replace U := U.tr g49.up
                                  replace G := G.tr g49
                                  replace V22 := V22.tr g49
                                  replace Vi29 := Vi29.tr g49
                                  replace V33 := V33.tr g49
                                  replace hF := g49.fz
                                  refine ⟨.inr (SU.tr g49.up), ?_⟩
                                  replace SU := SU.tr g49.up
                                  refine t_one ?_
                                  refine t_eff (by exact rfl) (e_callV cal_33 (aC (et (gS rfl (gS rfl (gS rfl (gS rfl g0)))) rfl) aN) (nat_fromRow hF (k30.row oaC_bal) k30.lt hb22 (by decide))) (fun v50 w50 h50 => ?_)
                                  obtain ⟨H50, g50, n950⟩ := h50
                                  have hlew50 := g50.le
                                  replace nb2 := g50.nb nb2 k2.lt
                                  replace nb13 := g50.nb nb13 k13.lt
                                  replace nb30 := g50.nb nb30 k30.lt
                                  replace nb48 := g50.nb nb48 k48.lt
                                  replace l917 := l917.mono hlew50
                                  replace hRW := hRW.mono hlew50
                                  replace hTt := hTt.mono hlew50
                                  replace hcd1 := hcd1.mono hlew50
                                  replace hvs := hvs.mono hlew50
                                  replace n949 := n949.mono hlew50
                                  replace hL0 := hL0.trans hlew50
                                  replace k2 := k2.up g50.up
                                  replace k13 := k13.up g50.up
                                  replace k30 := k30.up g50.up
                                  replace k48 := k48.up g50.up
                                  replace hO := hO.up g50.up
                                  replace U := U.tr g50.up
                                  replace G := G.tr g50
                                  replace V22 := V22.tr g50
                                  replace Vi29 := Vi29.tr g50
                                  replace V33 := V33.tr g50
                                  replace hF := g50.fz
                                  refine ⟨.inr (SU.tr g50.up), ?_⟩
                                  replace SU := SU.tr g50.up
                                  refine t_one ?_
                                  refine t_eff (by exact rfl) (e_callV cal_26 (aC (et (gS rfl (gS rfl (gS rfl g0))) rfl) aN) (yp_bytes hF hcd1 (by omega))) (fun v51 w51 h51 => ?_)
                                  obtain ⟨H51, g51, b951⟩ := h51
                                  have hlew51 := g51.le
                                  replace nb2 := g51.nb nb2 k2.lt
                                  replace nb13 := g51.nb nb13 k13.lt
                                  replace nb30 := g51.nb nb30 k30.lt
                                  replace nb48 := g51.nb nb48 k48.lt
                                  replace l917 := l917.mono hlew51
                                  replace hRW := hRW.mono hlew51
                                  replace hTt := hTt.mono hlew51
                                  replace hcd1 := hcd1.mono hlew51
                                  replace hvs := hvs.mono hlew51
                                  replace n949 := n949.mono hlew51
                                  replace n950 := n950.mono hlew51
                                  replace hL0 := hL0.trans hlew51
                                  replace k2 := k2.up g51.up
                                  replace k13 := k13.up g51.up
                                  replace k30 := k30.up g51.up
                                  replace k48 := k48.up g51.up
                                  replace hO := hO.up g51.up
                                  replace U := U.tr g51.up
                                  replace G := G.tr g51
                                  replace V22 := V22.tr g51
                                  replace Vi29 := Vi29.tr g51
                                  replace V33 := V33.tr g51
                                  replace hF := g51.fz
                                  obtain ⟨za, zc, rfl, hzl⟩ := b951.sv.val
                                  refine ⟨.inr (SU.tr g51.up), ?_⟩
                                  replace SU := SU.tr g51.up
                                  refine t_step (by exact rfl) (y_bld (bC (et (gS rfl (gS rfl (gS rfl (gS rfl (gS rfl (gS rfl (gS rfl (gS rfl (gS rfl (gS rfl g0)))))))))) rfl) (bC (et (gS rfl (gS rfl g0)) rfl) (bC (et (gS rfl g0) rfl) (bC (et g0 rfl) bN)))) (bld_ac n949.one1 n950.one1 rfl)) ?_
                                  refine t_one ?_
                                  refine t_effN (by exact rfl) (e_store sz_107 (et (gS rfl (gS rfl (gS rfl (gS rfl g0)))) rfl) (cellsV (et g0 rfl) rfl) ac_len (by exact one_app (one_four n949.one1 n950.one1 rfl rfl)) k48 (by exact Nat.le_of_ble_eq_true rfl)) (fun v52 w52 h52 => ?_)
                                  obtain ⟨rfl, x52⟩ := h52
                                  replace k2 := k2.ch x52.ch (by omega)
                                  replace k13 := k13.ch x52.ch (by omega)
                                  replace k30 := k30.ch x52.ch (by omega)
                                  replace k48 := x52.blk.full (by rw [ac_len]; rfl)
                                  replace hO := hO.wr x52 (by first | omega | (right; omega))
                                  replace G := G.wr x52 (by first | exact .inr f48 | exact .inl rfl | omega | (simp; omega)) nb48
                                  replace V22 := V22.wr x52 (by first | exact .inr f48 | exact .inl rfl | omega | (simp; omega)) nb48
                                  replace Vi29 := Vi29.wr x52 (by first | exact .inr f48 | exact .inl rfl | omega | (simp; omega)) nb48
                                  replace V33 := V33.wr x52 (by first | exact .inr f48 | exact .inl rfl | omega | (simp; omega)) nb48
                                  replace hF := G.fz
                                  replace U := U.st x52 f48
                                  refine ⟨.inl rfl, ?_⟩
                                  refine tl6 6 8 9 34 35 36 (gS rfl (gS rfl (gS rfl (gS rfl (gS rfl (gS rfl (gS rfl (gS rfl (gS rfl (gS rfl (gS rfl (gS rfl (gS rfl (gS rfl (gS rfl (gS rfl (gS rfl g0))))))))))))))))) (gS rfl (gS rfl (gS rfl (gS rfl (gS rfl (gS rfl (gS rfl (gS rfl (gS rfl (gS rfl (gS rfl (gS rfl (gS rfl (gS rfl (gS rfl (gS rfl g0)))))))))))))))) (gS rfl (gS rfl (gS rfl (gS rfl g0)))) (gS rfl (gS rfl (gS rfl (gS rfl (gS rfl (gS rfl (gS rfl (gS rfl (gS rfl (gS rfl (gS rfl (gS rfl (gS rfl (gS rfl (gS rfl g0))))))))))))))) (gS rfl (gS rfl (gS rfl (gS rfl (gS rfl (gS rfl (gS rfl (gS rfl (gS rfl (gS rfl (gS rfl (gS rfl (gS rfl (gS rfl g0)))))))))))))) (gS rfl (gS rfl (gS rfl (gS rfl (gS rfl (gS rfl (gS rfl (gS rfl (gS rfl (gS rfl (gS rfl (gS rfl (gS rfl g0))))))))))))) (fun g => ?_)
                                  exact ⟨g, _, _, _, _, _, _, rfl, V33, Nat.le_trans hu.size fS48, k48, nb48, n949, n950, b951⟩
                              intro s_ w53 hJ
                              obtain ⟨g, b34, vn, vb, qa, qc, Hj33, rfl, V33, fn34, kn34, nb34, hnn, hbb, hbc⟩ := hJ
                              subst e6 e8 e34 e35 e36
                              have d2_34 : b2 < b34 := Nat.lt_of_lt_of_le k2.lt fn34
                              have d13_34 : b13 < b34 := Nat.lt_of_lt_of_le k13.lt fn34
                              have d30_34 : b30 < b34 := Nat.lt_of_lt_of_le k30.lt fn34
                              have f34 : w.heap.size ≤ b34 := Nat.le_trans U.size fn34
                              have fV22_34 := Nat.le_trans V22.ch.size fn34
                              have fVi29_34 := Nat.le_trans Vi29.ch.size fn34
                              have hlew53 := V33.le
                              replace nb2 := V33.nb nb2 k2.lt
                              replace nb13 := V33.nb nb13 k13.lt
                              replace nb30 := V33.nb nb30 k30.lt
                              replace l917 := l917.mono hlew53
                              replace hRW := hRW.mono hlew53
                              replace hTt := hTt.mono hlew53
                              replace hcd1 := hcd1.mono hlew53
                              replace hvs := hvs.mono hlew53
                              replace hL0 := hL0.trans hlew53
                              replace k2 := k2.up V33.up
                              replace k13 := k13.up V33.up
                              replace k30 := k30.up V33.up
                              replace hO := hO.up V33.up
                              replace U := U.tr V33.up
                              replace G := G.tr V33
                              replace V22 := V22.tr V33
                              replace Vi29 := Vi29.tr V33
                              replace hF := V33.fz
                              have k34 := kn34
                              refine hK32 _ _ ?_
                              refine c_seq (fun K54 hK54 => ?_)
                              refine c_seq (fun K55 hK55 => ?_)
                              exact (by
                                refine c_region ?_
                                refine l_step (y_fld fld_113_4 (et (gS rfl (gS rfl (gS rfl (gS rfl g0)))) rfl)) ?_
                                refine l_step (y_load1 one_111 (et g0 rfl) (at1 (k30.cell oaC_sto))) ?_
                                refine l_step (y_len Hvaa.underlying111 (et g0 rfl)) ?_
                                refine l_step y_moveC ?_
                                refine l_nil ?_
                                refine hK55 _ _ ?_
                                refine fg8 6 9 34 35 36 53 54 55 (gS rfl (gS rfl (gS rfl (gS rfl (gS rfl (gS rfl (gS rfl (gS rfl (gS rfl g0))))))))) (gS rfl (gS rfl (gS rfl (gS rfl (gS rfl (gS rfl (gS rfl g0))))))) (gS rfl (gS rfl (gS rfl (gS rfl (gS rfl (gS rfl g0)))))) (gS rfl (gS rfl (gS rfl (gS rfl (gS rfl g0))))) (gS rfl (gS rfl (gS rfl (gS rfl g0)))) (gS rfl (gS rfl g0)) (gS rfl g0) g0 (fun g => ?_)
                                refine c_block (fun Q56 hQ56 => ?_)
                                refine fg8 6 9 34 35 36 53 54 55 (gS rfl (gS rfl (gS rfl (gS rfl (gS rfl (gS rfl (gS rfl g0))))))) (gS rfl (gS rfl (gS rfl (gS rfl (gS rfl (gS rfl g0)))))) (gS rfl (gS rfl (gS rfl (gS rfl (gS rfl g0))))) (gS rfl (gS rfl (gS rfl (gS rfl g0)))) (gS rfl (gS rfl (gS rfl g0))) (gS rfl (gS rfl g0)) (gS rfl g0) g0 (fun g => ?_)
                                obtain ⟨base2, hbs2⟩ : ∃ base2, base2 = w53.heap.size := ⟨_, rfl⟩
                                have hB9 : Bw ≤ b34 := by rw [hBw]; exact fVi29_34
                                have hB2 : Bw ≤ base2 := by rw [hBw, hbs2]; exact Vi29.ch.size
                                have hlt9 : b34 < base2 := by rw [hbs2]; exact k34.lt
                                have hlt8 : b30 < base2 := by rw [hbs2]; exact k30.lt
                                have hbw2 : w.heap.size ≤ base2 := by rw [hbs2]; exact U.size
                                refine c_loop (fun k_ s_ W57 => ∃ (g : Nat → Value) (Hk57 : Store) (vq : Value) (rows2 : List (List Value)) (j : Nat), s_ = (upd (upd (upd (upd (upd (upd (upd (upd g 6 (.pointer (some ⟨b13, 0, none⟩))) 9 (.pointer (some ⟨b34, 0, none⟩))) 34 (.slice wa l.length wc)) 35 (.int .i64 (l.length : Nat))) 36 (.int .i64 (i : Nat))) 53 (.slice sva l[i].slots.length svc)) 54 (.int .i64 (l[i].slots.length : Nat))) 55 (.int .i64 (j : Nat))) ∧ l[i].slots.length - j = k_ ∧ (j ≤ l[i].slots.length) ∧ (GL P_raw H base2 115 2 W57.heap.size W57 vq rows2) ∧ (RWs P_slot 2 Hk57 rows2 (l[i].slots.take j)) ∧ (∀ q, some q = vq.ownBlock → ¬ Hk57.has q) ∧ Blk W57 b34 ((bL (be 20 l[i].addr) ++ [vn, vb, .slice qa l[i].code.length qc, vq]).toArray) ∧ Go (fun k => k = b34 ∨ base2 ≤ k) w53 Hj33 W57 Hk57) (l[i].slots.length - (0)) ?_ ?_
                                · exact ⟨g, _, (.slice none 0 0), [], 0, rfl, rfl, Nat.zero_le _, GL.nil, by rw [List.take_zero]; exact RWs.nil _ _ _, (fun q hq => by cases hq), k34, Go.refl hF⟩
                                · skip
                                  intro k_ s_ W57 hI K57 hK57
                                  obtain ⟨g, Hk57, vq, rows2, j, rfl, rfl, hj, hI, hRI, hnI, nk34, V57⟩ := hI
                                  have hle57 := V57.le
                                  replace nb2 := V57.nb nb2 k2.lt
                                  replace nb13 := V57.nb nb13 k13.lt
                                  replace nb30 := V57.nb nb30 k30.lt
                                  replace nb34 := V57.nb nb34 k34.lt
                                  replace l917 := l917.mono hle57
                                  replace hRW := hRW.mono hle57
                                  replace hTt := hTt.mono hle57
                                  replace hcd1 := hcd1.mono hle57
                                  replace hvs := hvs.mono hle57
                                  replace hnn := hnn.mono hle57
                                  replace hbb := hbb.mono hle57
                                  replace hbc := hbc.mono hle57
                                  replace hL0 := hL0.trans hle57
                                  replace G := G.trans V57 (by intro b hb; first | exact hb.elim | omega | (simp at hb ⊢; omega))
                                  replace V22 := V22.trans V57 (by intro b hb; first | exact hb.elim | omega | (simp at hb ⊢; omega))
                                  replace Vi29 := Vi29.trans V57 (by intro b hb; first | exact hb.elim | omega | (simp at hb ⊢; omega))
                                  replace hF := V57.fz
                                  replace k2 := k2.ch V57.ch (by omega)
                                  replace k13 := k13.ch V57.ch (by omega)
                                  replace k30 := k30.ch V57.ch (by omega)
                                  replace hO := hO.ch V57.ch (by first | omega | (intro q hq; omega))
                                  replace k34 := nk34
                                  replace U := U.cc V57.ch (by intro b hb; first | exact hb.elim | omega | (simp at hb ⊢; omega))
                                  have hbW2 : base2 ≤ W57.heap.size := by rw [hbs2]; exact V57.ch.size
                                  refine c_seq (fun K58 hK58 => ?_)
                                  exact (by
                                    refine c_region ?_
                                    refine l_step (y_lss (et g0 rfl) (et (gS rfl g0) rfl)) ?_
                                    refine l_nil ?_
                                    refine hK58 _ _ ?_
                                    refine c_seq (fun K59 hK59 => ?_)
                                    refine c_cond (et g0 rfl) (fun cB3 => ?_) (fun cB3 => ?_)
                                    · skip
                                      
                                      have hjl : j < l[i].slots.length := by have := of_decide_eq_true cB3; omega
                                      refine c_skip ?_
                                      refine hK59 _ _ ?_
                                      refine fg8 6 9 34 35 36 53 54 55 (gS rfl (gS rfl (gS rfl (gS rfl (gS rfl (gS rfl (gS rfl (gS rfl g0)))))))) (gS rfl (gS rfl (gS rfl (gS rfl (gS rfl (gS rfl (gS rfl g0))))))) (gS rfl (gS rfl (gS rfl (gS rfl (gS rfl (gS rfl g0)))))) (gS rfl (gS rfl (gS rfl (gS rfl (gS rfl g0))))) (gS rfl (gS rfl (gS rfl (gS rfl g0)))) (gS rfl (gS rfl (gS rfl g0))) (gS rfl (gS rfl g0)) (gS rfl g0) (fun g => ?_)
                                      refine c_seq (fun K61 hK61 => ?_)
                                      refine c_block (fun Q62 hQ62 => ?_)
                                      refine c_seq (fun K63 hK63 => ?_)
                                      exact (by
                                        refine c_region ?_
                                        have Vj64 : Go (fun k => base2 ≤ k ∨ k = b34) W57 Hk57 W57 Hk57 := Go.refl hF
                                        obtain ⟨Bi, hBi⟩ : ∃ Bi, Bi = W57.heap.size := ⟨_, rfl⟩
                                        rw [← hBi] at hI
                                        have hBb2 : base2 ≤ Bi := by rw [hBi]; exact hbW2
                                        obtain ⟨bq2, oq2, r2, ha2, hrow2, hrl2, hr2, hkl, hvl9⟩ := hvs.row hF (i := j) hjl
                                        rw [hr2] at hrow2 hrl2
                                        refine l_step (y_idxSa ha2 Hvaa.underlying111 sz_117 (et (gS rfl (gS rfl g0)) rfl) (et g0 rfl) ?_) ?_
                                        omega
                                        refine l_step (y_loadR agg_117 sz_117 (et g0 rfl) hrl2 (at1R hrow2)) ?_
                                        refine l_eff (e_alloc zr_117) (fun v65 w65 h65 => ?_)
                                        obtain ⟨b65, rfl, n65⟩ := h65
                                        have d2_65 : b2 < b65 := Nat.lt_of_lt_of_le k2.lt n65.fresh
                                        have d13_65 : b13 < b65 := Nat.lt_of_lt_of_le k13.lt n65.fresh
                                        have d30_65 : b30 < b65 := Nat.lt_of_lt_of_le k30.lt n65.fresh
                                        have d34_65 : b34 < b65 := Nat.lt_of_lt_of_le k34.lt n65.fresh
                                        have f65 : w.heap.size ≤ b65 := Nat.le_trans U.size n65.fresh
                                        have nb65 := hF.nb n65.fresh
                                        have fV22_65 := Nat.le_trans V22.ch.size n65.fresh
                                        have fVi29_65 := Nat.le_trans Vi29.ch.size n65.fresh
                                        have fV57_65 := Nat.le_trans V57.ch.size n65.fresh
                                        have fVj64_65 := Nat.le_trans Vj64.ch.size n65.fresh
                                        replace G := G.tr (Go.ofUp hF n65.up)
                                        replace V22 := V22.tr (Go.ofUp hF n65.up)
                                        replace Vi29 := Vi29.tr (Go.ofUp hF n65.up)
                                        replace V57 := V57.tr (Go.ofUp hF n65.up)
                                        replace Vj64 := Vj64.tr (Go.ofUp hF n65.up)
                                        replace hF := hF.up n65.up
                                        replace k2 := k2.up n65.up
                                        replace k13 := k13.up n65.up
                                        replace k30 := k30.up n65.up
                                        replace k34 := k34.up n65.up
                                        replace hO := hO.up n65.up
                                        replace hI := hI.up n65.up
                                        replace U := U.tr n65.up
                                        have k65 := n65.blk
                                        have hB11 : Bi ≤ b65 := by rw [hBi]; exact n65.fresh
                                        exact (by
                                          refine l_effN (e_store sz_117 (et g0 rfl) (cellsV (et (gS rfl g0) rfl) rfl) os_len (by exact os_one) k65 (by exact Nat.le_of_ble_eq_true rfl)) (fun v66 w66 h66 => ?_)
                                          obtain ⟨rfl, x66⟩ := h66
                                          replace k2 := k2.ch x66.ch (by omega)
                                          replace k13 := k13.ch x66.ch (by omega)
                                          replace k30 := k30.ch x66.ch (by omega)
                                          replace k34 := k34.ch x66.ch (by omega)
                                          replace k65 := x66.blk.full (by rw [os_len]; rfl)
                                          replace hO := hO.wr x66 (by first | omega | (right; omega))
                                          replace hI := hI.wr x66 (by first | omega | (right; omega))
                                          replace G := G.wr x66 (by first | exact .inr f65 | exact .inl rfl | omega | (simp; omega)) nb65
                                          replace V22 := V22.wr x66 (by first | exact .inr f65 | exact .inl rfl | omega | (simp; omega)) nb65
                                          replace Vi29 := Vi29.wr x66 (by first | exact .inr f65 | exact .inl rfl | omega | (simp; omega)) nb65
                                          replace V57 := V57.wr x66 (by first | exact .inr f65 | exact .inl rfl | omega | (simp; omega)) nb65
                                          replace Vj64 := Vj64.wr x66 (by first | exact .inr f65 | exact .inl rfl | omega | (simp; omega)) nb65
                                          replace hF := G.fz
                                          replace U := U.st x66 f65
                                          refine l_nil ?_
                                          refine hK63 _ _ ?_
                                          refine fg9 6 9 34 35 36 53 54 55 11 (gS rfl (gS rfl (gS rfl (gS rfl (gS rfl (gS rfl (gS rfl (gS rfl (gS rfl (gS rfl g0)))))))))) (gS rfl (gS rfl (gS rfl (gS rfl (gS rfl (gS rfl (gS rfl (gS rfl (gS rfl g0))))))))) (gS rfl (gS rfl (gS rfl (gS rfl (gS rfl (gS rfl (gS rfl (gS rfl g0)))))))) (gS rfl (gS rfl (gS rfl (gS rfl (gS rfl (gS rfl (gS rfl g0))))))) (gS rfl (gS rfl (gS rfl (gS rfl (gS rfl (gS rfl g0)))))) (gS rfl (gS rfl (gS rfl (gS rfl (gS rfl g0))))) (gS rfl (gS rfl (gS rfl (gS rfl g0)))) (gS rfl (gS rfl (gS rfl g0))) g0 (fun g => ?_)
                                          refine c_draw (Ch (fun k => some k = vq.ownBlock)) 12 [(0, true), (1, true), (2, true), (3, true), (5, true), (6, true), (4, false), (7, false), (8, true), (9, false), (10, false), (11, true), (12, false)] (by kernel_rfl) (fun w67 hu => ⟨Ch.refl _ _, ?_⟩)
                                          replace G := G.tr (Go.ofUp hF hu)
                                          replace V22 := V22.tr (Go.ofUp hF hu)
                                          replace Vi29 := Vi29.tr (Go.ofUp hF hu)
                                          replace V57 := V57.tr (Go.ofUp hF hu)
                                          replace Vj64 := Vj64.tr (Go.ofUp hF hu)
                                          replace hF := hF.up hu
                                          replace k2 := k2.up hu
                                          replace k13 := k13.up hu
                                          replace k30 := k30.up hu
                                          replace k34 := k34.up hu
                                          replace k65 := k65.up hu
                                          replace hO := hO.up hu
                                          replace hI := hI.up hu
                                          replace U := U.tr hu
                                          have SU : (Ch (fun k => some k = vq.ownBlock)) w67 w67 := Ch.refl _ _
                                          exact (by
                                            refine p_step (by exact rfl) (y_fld fld_107_4 (et (gS rfl (gS rfl (gS rfl (gS rfl (gS rfl (gS rfl (gS rfl g0))))))) rfl)) ?_
                                            refine p_step (by exact rfl) (y_load1 one_105 (et g0 rfl) (atC (k34.cell ((app20 (i := 3) rfl).trans rfl)) (by first | exact hI.ne (by omega) | exact hOo.ne (by omega) | exact hO.ne (by omega) | omega))) ?_
                                            refine p_step (by exact rfl) (y_fld fld_117_0 (et (gS rfl (gS rfl g0)) rfl)) ?_
                                            refine p_step (by exact rfl) (y_slA000 Hvaa.underlying28 sz_5 (et g0 rfl) ) ?_
                                            refine p_step (by exact rfl) (y_fld fld_117_1 (et (gS rfl (gS rfl (gS rfl (gS rfl g0)))) rfl)) ?_
                                            refine p_step (by exact rfl) (y_slA000 Hvaa.underlying28 sz_5 (et g0 rfl) ) ?_
                                            refine p_eff (by exact rfl) (e_callV cal_33 (aC (et (gS rfl (gS rfl g0)) rfl) aN) (nat_fromRow hF (k65.row (RowIn.app _ _)) k65.lt hkl (by decide))) (fun v68 w68 h68 => ?_)
                                            obtain ⟨H68, g68, n968⟩ := h68
                                            have hlew68 := g68.le
                                            replace nb2 := g68.nb nb2 k2.lt
                                            replace nb13 := g68.nb nb13 k13.lt
                                            replace nb30 := g68.nb nb30 k30.lt
                                            replace nb34 := g68.nb nb34 k34.lt
                                            replace nb65 := g68.nb nb65 k65.lt
                                            replace l917 := l917.mono hlew68
                                            replace hRW := hRW.mono hlew68
                                            replace hTt := hTt.mono hlew68
                                            replace hcd1 := hcd1.mono hlew68
                                            replace hvs := hvs.mono hlew68
                                            replace hnn := hnn.mono hlew68
                                            replace hbb := hbb.mono hlew68
                                            replace hbc := hbc.mono hlew68
                                            replace hRI := hRI.mono hlew68
                                            replace hL0 := hL0.trans hlew68
                                            replace k2 := k2.up g68.up
                                            replace k13 := k13.up g68.up
                                            replace k30 := k30.up g68.up
                                            replace k34 := k34.up g68.up
                                            replace k65 := k65.up g68.up
                                            replace hO := hO.up g68.up
                                            replace hI := hI.up g68.up
                                            replace U := U.tr g68.up
                                            replace G := G.tr g68
                                            replace V22 := V22.tr g68
                                            replace Vi29 := Vi29.tr g68
                                            replace V57 := V57.tr g68
                                            replace Vj64 := Vj64.tr g68
                                            replace hF := g68.fz
                                            refine ⟨.inr (SU.tr g68.up), ?_⟩
                                            replace SU := SU.tr g68.up
                                            exact (by
                                              refine p_eff (by exact rfl) (e_callV cal_33 (aC (et (gS rfl g0) rfl) aN) (nat_fromRow hF (k65.row os_val) k65.lt hvl9 (by decide))) (fun v69 w69 h69 => ?_)
                                              obtain ⟨H69, g69, n969⟩ := h69
                                              have hlew69 := g69.le
                                              replace nb2 := g69.nb nb2 k2.lt
                                              replace nb13 := g69.nb nb13 k13.lt
                                              replace nb30 := g69.nb nb30 k30.lt
                                              replace nb34 := g69.nb nb34 k34.lt
                                              replace nb65 := g69.nb nb65 k65.lt
                                              replace l917 := l917.mono hlew69
                                              replace hRW := hRW.mono hlew69
                                              replace hTt := hTt.mono hlew69
                                              replace hcd1 := hcd1.mono hlew69
                                              replace hvs := hvs.mono hlew69
                                              replace hnn := hnn.mono hlew69
                                              replace hbb := hbb.mono hlew69
                                              replace hbc := hbc.mono hlew69
                                              replace hRI := hRI.mono hlew69
                                              replace n968 := n968.mono hlew69
                                              replace hL0 := hL0.trans hlew69
                                              replace k2 := k2.up g69.up
                                              replace k13 := k13.up g69.up
                                              replace k30 := k30.up g69.up
                                              replace k34 := k34.up g69.up
                                              replace k65 := k65.up g69.up
                                              replace hO := hO.up g69.up
                                              replace hI := hI.up g69.up
                                              replace U := U.tr g69.up
                                              replace G := G.tr g69
                                              replace V22 := V22.tr g69
                                              replace Vi29 := Vi29.tr g69
                                              replace V57 := V57.tr g69
                                              replace Vj64 := Vj64.tr g69
                                              replace hF := g69.fz
                                              refine ⟨.inr (SU.tr g69.up), ?_⟩
                                              replace SU := SU.tr g69.up
                                              exact (by
                                                refine p_step (by exact rfl) (y_bld (bC (et (gS rfl g0) rfl) (bC (et g0 rfl) bN)) (bld_sl n968.one1 n969.one1)) ?_
                                                refine p_eff (by exact rfl) (e_slice1 Hvaa.underlying105 sz_115 zr_115 rfl (by decide) (et g0 rfl) (by rw [show (Value.agg ([v68, v69]).toArray).cells = ([v68, v69]).toArray from rfl, List.size_toArray, show ([v68, v69] : List Value).length = 2 from rfl])) (fun v70 w70 h70 => ?_)
                                                obtain ⟨b70, rfl, n70⟩ := h70
                                                replace G := G.tr (Go.ofUp hF n70.up)
                                                replace V22 := V22.tr (Go.ofUp hF n70.up)
                                                replace Vi29 := Vi29.tr (Go.ofUp hF n70.up)
                                                replace V57 := V57.tr (Go.ofUp hF n70.up)
                                                replace Vj64 := Vj64.tr (Go.ofUp hF n70.up)
                                                replace hF := hF.up n70.up
                                                replace k2 := k2.up n70.up
                                                replace k13 := k13.up n70.up
                                                replace k30 := k30.up n70.up
                                                replace k34 := k34.up n70.up
                                                replace k65 := k65.up n70.up
                                                replace hO := hO.up n70.up
                                                replace hI := hI.up n70.up
                                                replace U := U.tr n70.up
                                                have kq70 : Blk w70 b70 ([v68, v69]).toArray := n70.blk
                                                refine ⟨.inr (SU.tr n70.up), ?_⟩
                                                replace SU := SU.tr n70.up
                                                have hbz : base2 ≤ w70.heap.size := by have h1 := Vj64.ch.size; omega
                                                have hnP2 : ∀ q, some q = vq.ownBlock → ¬ Store.has H69 q := fun q hq hh => (Vj64.new q hh).elim (hnI q hq) (fun h8 => by have h9 := (hI.lim q hq.symm).2; omega)
                                                have hF8 := hF
                                                refine p_eff (by exact rfl) (e_appRaw Hvaa.underlying105 sz_115 zr_115 by_115 rfl (by decide) (et (gS rfl (gS rfl (gS rfl (gS rfl (gS rfl (gS rfl (gS rfl (gS rfl g0)))))))) rfl) hI (et g0 rfl) rfl kq70 (one_two n968.one1 n969.one1) (by decide) (by rw [hRI.len, List.length_take]; omega) hbz) (fun v71 w71 h71 => ?_)
                                                obtain ⟨hO71, c71, hown71⟩ := h71
                                                have hOo := hI
                                                have hnN2 : ∀ q, some q = v71.ownBlock → ¬ Store.has _ q := fun q hq hh => hown71 q (hF8.lt hh) (fun h9 => hnP2 q h9 hh) hq
                                                replace G := G.chs c71 (by intro b hb; have h9 := hOo.lim b hb.symm; first | exact .inl (.inl (by omega)) | exact .inr (by omega) | exact .inl (by omega) | exact .inl (.inr (by omega)) | omega) (by intro q hq hh; exact hnP2 q hq hh)
                                                replace V22 := V22.chs c71 (by intro b hb; have h9 := hOo.lim b hb.symm; first | exact .inl (.inl (by omega)) | exact .inr (by omega) | exact .inl (by omega) | exact .inl (.inr (by omega)) | omega) (by intro q hq hh; exact hnP2 q hq hh)
                                                replace Vi29 := Vi29.chs c71 (by intro b hb; have h9 := hOo.lim b hb.symm; first | exact .inl (.inl (by omega)) | exact .inr (by omega) | exact .inl (by omega) | exact .inl (.inr (by omega)) | omega) (by intro q hq hh; exact hnP2 q hq hh)
                                                replace V57 := V57.chs c71 (by intro b hb; have h9 := hOo.lim b hb.symm; first | exact .inl (.inl (by omega)) | exact .inr (by omega) | exact .inl (by omega) | exact .inl (.inr (by omega)) | omega) (by intro q hq hh; exact hnP2 q hq hh)
                                                replace Vj64 := Vj64.chs c71 (by intro b hb; have h9 := hOo.lim b hb.symm; first | exact .inl (.inl (by omega)) | exact .inr (by omega) | exact .inl (by omega) | exact .inl (.inr (by omega)) | omega) (by intro q hq hh; exact hnP2 q hq hh)
                                                replace hF := G.fz
                                                replace k2 := k2.ch c71 (by first | omega | exact hOo.ne (by omega) | (intro q hq; have h9 := hOo.lim q hq.symm; omega))
                                                replace k13 := k13.ch c71 (by first | omega | exact hOo.ne (by omega) | (intro q hq; have h9 := hOo.lim q hq.symm; omega))
                                                replace k30 := k30.ch c71 (by first | omega | exact hOo.ne (by omega) | (intro q hq; have h9 := hOo.lim q hq.symm; omega))
                                                replace k34 := k34.ch c71 (by first | omega | exact hOo.ne (by omega) | (intro q hq; have h9 := hOo.lim q hq.symm; omega))
                                                replace k65 := k65.ch c71 (by first | omega | exact hOo.ne (by omega) | (intro q hq; have h9 := hOo.lim q hq.symm; omega))
                                                replace hO := hO.ch c71 (by first | omega | exact hOo.ne (by omega) | (intro q hq; have h9 := hOo.lim q hq.symm; omega))
                                                replace hI := hO71
                                                replace U := U.cc c71 (by intro b hb; have h9 := hOo.lim b hb.symm; first | exact .inl (.inl (by omega)) | exact .inr (by omega) | exact .inl (by omega) | exact .inl (.inr (by omega)) | omega)
                                                replace SU := SU.cc c71 (by intro b hb; first | exact .inl hb | exact hb.elim | omega | (have h9 := hOo.lim b hb.symm; first | exact .inl (by omega) | omega))
                                                refine ⟨.inr SU, ?_⟩
                                                exact (by
                                                  refine p_step (by exact rfl) (y_fld fld_107_4 (et (gS rfl (gS rfl (gS rfl (gS rfl (gS rfl (gS rfl (gS rfl (gS rfl (gS rfl (gS rfl (gS rfl (gS rfl (gS rfl (gS rfl (gS rfl (gS rfl (gS rfl (gS rfl g0)))))))))))))))))) rfl)) ?_
                                                  refine p_effN (by exact rfl) (e_store sz_105 (et g0 rfl) (cellsV (et (gS rfl g0) rfl) (cells_one hI.one1)) rfl (by exact one_sgl hI.one1) k34 (by (rw [List.size_toArray, ac_len]; decide))) (fun v72 w72 h72 => ?_)
                                                  obtain ⟨rfl, x72⟩ := h72
                                                  replace k2 := k2.ch x72.ch (by omega)
                                                  replace k13 := k13.ch x72.ch (by omega)
                                                  replace k30 := k30.ch x72.ch (by omega)
                                                  replace k65 := k65.ch x72.ch (by omega)
                                                  replace k34 := x72.blk
                                                  replace hO := hO.wr x72 (by first | omega | (right; omega))
                                                  replace hI := hI.wr x72 (by first | omega | (right; omega))
                                                  replace G := G.wr x72 (by first | exact .inr f34 | exact .inl rfl | omega | (simp; omega)) nb34
                                                  replace V22 := V22.wr x72 (by first | exact .inr f34 | exact .inl rfl | omega | (simp; omega)) nb34
                                                  replace Vi29 := Vi29.wr x72 (by first | exact .inr f34 | exact .inl rfl | omega | (simp; omega)) nb34
                                                  replace V57 := V57.wr x72 (by first | exact .inr f34 | exact .inl rfl | omega | (simp; omega)) nb34
                                                  replace Vj64 := Vj64.wr x72 (by first | exact .inr f34 | exact .inl rfl | omega | (simp; omega)) nb34
                                                  replace hF := G.fz
                                                  replace U := U.st x72 f34
                                                  refine ⟨.inl rfl, ?_⟩
                                                  rw [ac_set] at k34
                                                  refine p_nil ?_
                                                  refine hQ62 _ _ _ (in_normal ?_)
                                                  refine hK61 _ _ ?_
                                                  refine fg8 6 9 34 35 36 53 54 55 (gS rfl (gS rfl (gS rfl (gS rfl (gS rfl (gS rfl (gS rfl (gS rfl (gS rfl (gS rfl (gS rfl (gS rfl (gS rfl (gS rfl (gS rfl (gS rfl (gS rfl (gS rfl (gS rfl (gS rfl g0)))))))))))))))))))) (gS rfl (gS rfl (gS rfl (gS rfl (gS rfl (gS rfl (gS rfl (gS rfl (gS rfl (gS rfl (gS rfl (gS rfl (gS rfl (gS rfl (gS rfl (gS rfl (gS rfl (gS rfl (gS rfl g0))))))))))))))))))) (gS rfl (gS rfl (gS rfl (gS rfl (gS rfl (gS rfl (gS rfl (gS rfl (gS rfl (gS rfl (gS rfl (gS rfl (gS rfl (gS rfl (gS rfl (gS rfl (gS rfl (gS rfl g0)))))))))))))))))) (gS rfl (gS rfl (gS rfl (gS rfl (gS rfl (gS rfl (gS rfl (gS rfl (gS rfl (gS rfl (gS rfl (gS rfl (gS rfl (gS rfl (gS rfl (gS rfl (gS rfl g0))))))))))))))))) (gS rfl (gS rfl (gS rfl (gS rfl (gS rfl (gS rfl (gS rfl (gS rfl (gS rfl (gS rfl (gS rfl (gS rfl (gS rfl (gS rfl (gS rfl (gS rfl g0)))))))))))))))) (gS rfl (gS rfl (gS rfl (gS rfl (gS rfl (gS rfl (gS rfl (gS rfl (gS rfl (gS rfl (gS rfl (gS rfl (gS rfl (gS rfl (gS rfl g0))))))))))))))) (gS rfl (gS rfl (gS rfl (gS rfl (gS rfl (gS rfl (gS rfl (gS rfl (gS rfl (gS rfl (gS rfl (gS rfl (gS rfl (gS rfl g0)))))))))))))) (gS rfl (gS rfl (gS rfl (gS rfl (gS rfl (gS rfl (gS rfl (gS rfl (gS rfl (gS rfl (gS rfl (gS rfl (gS rfl g0))))))))))))) (fun g => ?_)
                                                  refine c_region ?_
                                                  refine l_step (y_add (et g0 rfl) rfl (addIN (y := 1) ?_)) ?_
                                                  omega
                                                  refine l_step (y_moveV (et g0 rfl)) ?_
                                                  refine l_nil ?_
                                                  refine fK8 6 9 34 35 36 53 54 55 (gS rfl (gS rfl (gS rfl (gS rfl (gS rfl (gS rfl (gS rfl (gS rfl (gS rfl g0))))))))) (gS rfl (gS rfl (gS rfl (gS rfl (gS rfl (gS rfl (gS rfl (gS rfl g0)))))))) (gS rfl (gS rfl (gS rfl (gS rfl (gS rfl (gS rfl (gS rfl g0))))))) (gS rfl (gS rfl (gS rfl (gS rfl (gS rfl (gS rfl g0)))))) (gS rfl (gS rfl (gS rfl (gS rfl (gS rfl g0))))) (gS rfl (gS rfl (gS rfl (gS rfl g0)))) (gS rfl (gS rfl (gS rfl g0))) g0 (fun g => ?_)
                                                  exact hK57 (l[i].slots.length - ((j + 1))) _ _ (by omega) ⟨g, _, _, _, (j + 1), rfl, rfl, by omega, hI.mono x72.ch.size, by rw [← List.take_append_getElem hjl]; exact hRI.snoc rfl ⟨_, _, rfl, n968, n969, hkl, hvl9⟩, hnN2, k34, V57⟩))))))
                                    · skip
                                      
                                      have hjl : ¬ j < l[i].slots.length := by have := of_decide_eq_false cB3; omega
                                      rw [List.take_of_length_le (show l[i].slots.length ≤ j by omega)] at hRI
                                      have hI2 := hI.of_raw hRI
                                      have hbw := hbw2
                                      obtain ⟨Hz73, Gz73, hlz73, lvz73, hnz73⟩ := hI2.keep' mono_slot G (Le.refl _) hbw
                                      replace G := Gz73
                                      replace hF := G.fz
                                      replace l917 := l917.mono hlz73
                                      replace hRW := hRW.mono hlz73
                                      replace hTt := hTt.mono hlz73
                                      replace hcd1 := hcd1.mono hlz73
                                      replace hvs := hvs.mono hlz73
                                      replace hnn := hnn.mono hlz73
                                      replace hbb := hbb.mono hlz73
                                      replace hbc := hbc.mono hlz73
                                      replace hRI := hRI.mono hlz73
                                      replace hL0 := hL0.trans hlz73
                                      replace nb2 := fun hh => (hnz73 _ hh).elim nb2 (fun e => hI2.ne (by omega) e)
                                      replace nb13 := fun hh => (hnz73 _ hh).elim nb13 (fun e => hI2.ne (by omega) e)
                                      replace nb30 := fun hh => (hnz73 _ hh).elim nb30 (fun e => hI2.ne (by omega) e)
                                      replace nb34 := fun hh => (hnz73 _ hh).elim nb34 (fun e => hI2.ne (by omega) e)
                                      replace V22 := V22.ext2 hF hlz73 hnz73 (fun q hq => by have h9 := (hI.lim q hq.symm).1; omega)
                                      replace Vi29 := Vi29.ext2 hF hlz73 hnz73 (fun q hq => by have h9 := (hI.lim q hq.symm).1; omega)
                                      obtain ⟨sta, stc, rfl, hstl, hstc⟩ := lvz73.val
                                      refine c_exit ?_
                                      refine hQ56 _ _ _ (in_exit ?_)
                                      refine hK54 _ _ ?_
                                      refine fg5 6 9 34 35 36 (gS rfl (gS rfl (gS rfl (gS rfl (gS rfl (gS rfl (gS rfl (gS rfl g0)))))))) (gS rfl (gS rfl (gS rfl (gS rfl (gS rfl (gS rfl (gS rfl g0))))))) (gS rfl (gS rfl (gS rfl (gS rfl (gS rfl (gS rfl g0)))))) (gS rfl (gS rfl (gS rfl (gS rfl (gS rfl g0))))) (gS rfl (gS rfl (gS rfl (gS rfl g0)))) (fun g => ?_)
                                      refine c_seq (fun K74 hK74 => ?_)
                                      exact (by
                                        refine c_draw (Ch (fun k => some k = va.ownBlock)) 14 [(0, true), (1, true), (2, true), (3, true), (4, true), (5, true), (6, true), (7, true), (8, false), (9, false), (10, true), (11, true), (12, true), (13, true), (14, false)] (by kernel_rfl) (fun w75 hu => ⟨Ch.refl _ _, ?_⟩)
                                        replace G := G.tr (Go.ofUp hF hu)
                                        replace V22 := V22.tr (Go.ofUp hF hu)
                                        replace Vi29 := Vi29.tr (Go.ofUp hF hu)
                                        replace hF := hF.up hu
                                        replace k2 := k2.up hu
                                        replace k13 := k13.up hu
                                        replace k30 := k30.up hu
                                        replace k34 := k34.up hu
                                        replace hO := hO.up hu
                                        replace U := U.tr hu
                                        have SU : (Ch (fun k => some k = va.ownBlock)) w75 w75 := Ch.refl _ _
                                        refine p_step (by exact rfl) (y_moveV (et (gS rfl (gS rfl (gS rfl (gS rfl g0)))) rfl)) ?_
                                        refine p_step (by exact rfl) (y_moveV (et (gS rfl (gS rfl (gS rfl (gS rfl (gS rfl g0))))) rfl)) ?_
                                        refine p_step (by exact rfl) (y_nil (et g0 rfl)) ?_
                                        refine p_step (by exact rfl) (y_fld fld_104_0 (et g0 rfl)) ?_
                                        refine p_step (by exact rfl) (y_fld fld_102_0 (et g0 rfl)) ?_
                                        refine p_step (by exact rfl) (y_fld fld_98_0 (et g0 rfl)) ?_
                                        refine p_step (by exact rfl) (y_load1 one_92 (et g0 rfl) (atC (k13.cell stC_0) (by first | exact hI.ne (by omega) | exact hOo.ne (by omega) | exact hO.ne (by omega) | omega))) ?_
                                        refine p_step (by exact rfl) (y_loadB agg_107 sz_107 (et (gS rfl (gS rfl (gS rfl (gS rfl (gS rfl (gS rfl (gS rfl (gS rfl (gS rfl (gS rfl g0)))))))))) rfl) (by rw [List.size_toArray, ac_len]) (atCB k34 (by first | exact hI.ne (by omega) | exact hOo.ne (by omega) | exact hO.ne (by omega) | omega))) ?_
                                        refine p_eff (by exact rfl) (e_slice1 Hvaa.underlying92 sz_107 zr_107 rfl (by decide) (et g0 rfl) (by rw [show (Value.agg ((bL (be 20 l[i].addr) ++ [vn, vb, .slice qa l[i].code.length qc, .slice sta l[i].slots.length stc])).toArray).cells = ((bL (be 20 l[i].addr) ++ [vn, vb, .slice qa l[i].code.length qc, .slice sta l[i].slots.length stc])).toArray from rfl, List.size_toArray, ac_len])) (fun v76 w76 h76 => ?_)
                                        obtain ⟨b76, rfl, n76⟩ := h76
                                        replace G := G.tr (Go.ofUp hF n76.up)
                                        replace V22 := V22.tr (Go.ofUp hF n76.up)
                                        replace Vi29 := Vi29.tr (Go.ofUp hF n76.up)
                                        replace hF := hF.up n76.up
                                        replace k2 := k2.up n76.up
                                        replace k13 := k13.up n76.up
                                        replace k30 := k30.up n76.up
                                        replace k34 := k34.up n76.up
                                        replace hO := hO.up n76.up
                                        replace U := U.tr n76.up
                                        have kq76 : Blk w76 b76 ((bL (be 20 l[i].addr) ++ [vn, vb, .slice qa l[i].code.length qc, .slice sta l[i].slots.length stc])).toArray := n76.blk
                                        refine ⟨.inr (SU.tr n76.up), ?_⟩
                                        replace SU := SU.tr n76.up
                                        exact (by
                                          have hbz : base ≤ w76.heap.size := by have h1 := Vi29.ch.size; omega
                                          have hPn : P_acct Hz73 (bL (be 20 l[i].addr) ++ [vn, vb, .slice qa l[i].code.length qc, .slice sta l[i].slots.length stc]) l[i] := ⟨_, _, _, _, rfl, hal, hnn, hbb, hbc, lvz73, hb21, hb22, by omega⟩
                                          have hnP : ∀ q, some q = va.ownBlock → ¬ Store.has Hz73 q := fun q hq hh => (Vi29.new q hh).elim (hnO q hq) (fun h8 => by have h9 := (hO.lim q hq.symm).2; omega)
                                          have hF8 := hF
                                          refine p_eff (by exact rfl) (e_appRaw Hvaa.underlying92 sz_107 zr_107 by_107 rfl (by decide) (et (gS rfl (gS rfl g0)) rfl) hO (et g0 rfl) ac_len kq76 (one_app (one_four hnn.one1 hbb.one1 rfl rfl)) (by decide) (by rw [hRW.len, List.length_take]; have := hok.len; omega) hbz) (fun v77 w77 h77 => ?_)
                                          obtain ⟨hO77, c77, hown77⟩ := h77
                                          have hOo := hO
                                          have hnN : ∀ q, some q = v77.ownBlock → ¬ Store.has _ q := fun q hq hh => hown77 q (hF8.lt hh) (fun h9 => hnP q h9 hh) hq
                                          replace G := G.chs c77 (by intro b hb; have h9 := hOo.lim b hb.symm; first | exact .inr (by omega) | exact .inl (by omega) | exact .inl (.inr (by omega)) | exact .inl (.inl (by omega)) | omega) (by intro q hq hh; exact hnP q hq hh)
                                          replace V22 := V22.chs c77 (by intro b hb; have h9 := hOo.lim b hb.symm; first | exact .inr (by omega) | exact .inl (by omega) | exact .inl (.inr (by omega)) | exact .inl (.inl (by omega)) | omega) (by intro q hq hh; exact hnP q hq hh)
                                          replace Vi29 := Vi29.chs c77 (by intro b hb; have h9 := hOo.lim b hb.symm; first | exact .inr (by omega) | exact .inl (by omega) | exact .inl (.inr (by omega)) | exact .inl (.inl (by omega)) | omega) (by intro q hq hh; exact hnP q hq hh)
                                          replace hF := G.fz
                                          replace k2 := k2.ch c77 (by first | omega | exact hOo.ne (by omega))
                                          replace k13 := k13.ch c77 (by first | omega | exact hOo.ne (by omega))
                                          replace k30 := k30.ch c77 (by first | omega | exact hOo.ne (by omega))
                                          replace k34 := k34.ch c77 (by first | omega | exact hOo.ne (by omega))
                                          replace hO := hO77
                                          replace U := U.cc c77 (by intro b hb; have h9 := hOo.lim b hb.symm; first | exact .inr (by omega) | exact .inl (by omega) | exact .inl (.inr (by omega)) | exact .inl (.inl (by omega)) | omega)
                                          replace SU := SU.cc c77 (by intro b hb; first | exact .inl hb | exact hb.elim | omega | (have h9 := hOo.lim b hb.symm; first | exact .inl (by omega) | omega))
                                          refine ⟨.inr SU, ?_⟩
                                          refine p_step (by exact rfl) (y_nil (et (gS rfl (gS rfl (gS rfl (gS rfl (gS rfl (gS rfl (gS rfl (gS rfl (gS rfl g0))))))))) rfl)) ?_
                                          refine p_step (by exact rfl) (y_fld fld_104_0 (et g0 rfl)) ?_
                                          refine p_step (by exact rfl) (y_fld fld_102_0 (et g0 rfl)) ?_
                                          refine p_step (by exact rfl) (y_fld fld_98_0 (et g0 rfl)) ?_
                                          refine p_effN (by exact rfl) (e_store sz_92 (et g0 rfl) (cellsV (et (gS rfl (gS rfl (gS rfl (gS rfl g0)))) rfl) (cells_one hO.one1)) rfl (by exact one_sgl hO.one1) k13 (by (rw [List.size_toArray, stC_len]; decide))) (fun v78 w78 h78 => ?_)
                                          obtain ⟨rfl, x78⟩ := h78
                                          replace k2 := k2.ch x78.ch (by omega)
                                          replace k30 := k30.ch x78.ch (by omega)
                                          replace k34 := k34.ch x78.ch (by omega)
                                          replace k13 := x78.blk
                                          replace hO := hO.wr x78 (by first | omega | (right; omega))
                                          replace G := G.wr x78 (by first | exact .inr f13 | exact .inl rfl | omega | (simp; omega)) nb13
                                          replace V22 := V22.wr x78 (by first | exact .inr f13 | exact .inl rfl | omega | (simp; omega)) nb13
                                          replace hF := G.fz
                                          replace U := U.st x78 f13
                                          refine ⟨.inl rfl, ?_⟩
                                          rw [stC_acc rfl] at k13
                                          refine p_nil ?_
                                          refine hK74 _ _ ?_
                                          refine fg5 6 9 34 35 36 (gS rfl (gS rfl (gS rfl (gS rfl (gS rfl (gS rfl (gS rfl (gS rfl (gS rfl (gS rfl (gS rfl (gS rfl (gS rfl (gS rfl (gS rfl (gS rfl (gS rfl (gS rfl g0)))))))))))))))))) (gS rfl (gS rfl (gS rfl (gS rfl (gS rfl (gS rfl (gS rfl (gS rfl (gS rfl (gS rfl (gS rfl (gS rfl (gS rfl (gS rfl (gS rfl (gS rfl (gS rfl g0))))))))))))))))) (gS rfl (gS rfl (gS rfl (gS rfl (gS rfl (gS rfl (gS rfl (gS rfl (gS rfl (gS rfl (gS rfl (gS rfl (gS rfl (gS rfl (gS rfl (gS rfl g0)))))))))))))))) (gS rfl (gS rfl (gS rfl (gS rfl (gS rfl (gS rfl (gS rfl (gS rfl (gS rfl (gS rfl (gS rfl (gS rfl (gS rfl (gS rfl (gS rfl g0))))))))))))))) (gS rfl (gS rfl (gS rfl (gS rfl (gS rfl (gS rfl (gS rfl (gS rfl (gS rfl (gS rfl (gS rfl (gS rfl (gS rfl (gS rfl g0)))))))))))))) (fun g => ?_)
                                          refine c_draw Up 12 [(0, true), (1, true), (2, true), (3, true), (4, true), (5, true), (6, true), (7, true), (8, false), (9, true), (10, true), (11, true), (12, false)] (by kernel_rfl) (fun w79 hu => ⟨Up.refl _, ?_⟩)
                                          replace G := G.tr (Go.ofUp hF hu)
                                          replace V22 := V22.tr (Go.ofUp hF hu)
                                          replace hF := hF.up hu
                                          replace k2 := k2.up hu
                                          replace k13 := k13.up hu
                                          replace k30 := k30.up hu
                                          replace k34 := k34.up hu
                                          replace hO := hO.up hu
                                          replace U := U.tr hu
                                          have SU := Up.refl w79
                                          exact (by
                                            refine p_step (by exact rfl) (y_moveV (et (gS rfl (gS rfl (gS rfl (gS rfl g0)))) rfl)) ?_
                                            refine p_step (by exact rfl) (y_moveV (et (gS rfl (gS rfl (gS rfl (gS rfl (gS rfl g0))))) rfl)) ?_
                                            refine p_step (by exact rfl) (y_nil (et g0 rfl)) ?_
                                            refine p_step (by exact rfl) (y_fld fld_104_0 (et g0 rfl)) ?_
                                            refine p_step (by exact rfl) (y_fld fld_102_11 (et g0 rfl)) ?_
                                            refine p_step (by exact rfl) (y_load1 one_95 (et g0 rfl) (atS (k13.cell stC_18))) ?_
                                            refine p_step (by exact rfl) (y_fld fld_107_2 (et (gS rfl (gS rfl (gS rfl (gS rfl (gS rfl (gS rfl (gS rfl (gS rfl (gS rfl g0))))))))) rfl)) ?_
                                            refine p_step (by exact rfl) (y_load1 one_95 (et g0 rfl) (atS (k34.cell ((app20 (i := 1) rfl).trans rfl)))) ?_
                                            have hsq9 : sumB (l.take i) < W256 := Nat.lt_of_le_of_lt (sum_tk i) hok.sum
                                            have hFC := hF
                                            refine p_eff (by exact rfl) (e_callV cal_34 (aC (et (gS rfl (gS rfl g0)) rfl) (aC (et g0 rfl) aN)) (nat_add hF hTt hbb (bd_sm (bd_W hsq9) (by decide)) (bd_sm (bd_W hb22) (by decide)))) (fun v80 w80 h80 => ?_)
                                            obtain ⟨H80, g80, n980⟩ := h80
                                            have hlew80 := g80.le
                                            replace nb2 := g80.nb nb2 k2.lt
                                            replace nb13 := g80.nb nb13 k13.lt
                                            replace nb30 := g80.nb nb30 k30.lt
                                            replace nb34 := g80.nb nb34 k34.lt
                                            replace l917 := l917.mono hlew80
                                            replace hRW := hRW.mono hlew80
                                            replace hTt := hTt.mono hlew80
                                            replace hcd1 := hcd1.mono hlew80
                                            replace hvs := hvs.mono hlew80
                                            replace hnn := hnn.mono hlew80
                                            replace hbb := hbb.mono hlew80
                                            replace hbc := hbc.mono hlew80
                                            replace hRI := hRI.mono hlew80
                                            replace lvz73 := lvz73.mono hlew80
                                            replace hL0 := hL0.trans hlew80
                                            replace k2 := k2.up g80.up
                                            replace k13 := k13.up g80.up
                                            replace k30 := k30.up g80.up
                                            replace k34 := k34.up g80.up
                                            replace hO := hO.up g80.up
                                            replace U := U.tr g80.up
                                            replace G := G.tr g80
                                            replace V22 := V22.tr g80
                                            replace hF := g80.fz
                                            have hnM : ∀ q, some q = _ → ¬ Store.has H80 q := fun q hq hh => (g80.new q hh).elim (hnN q hq) (fun h8 => by have h9 := (hO.lim q hq.symm).2; have h7 := x78.ch.size; have h6 := hu.size; omega)
                                            refine ⟨.inr (SU.tr g80.up), ?_⟩
                                            replace SU := SU.tr g80.up
                                            exact (by
                                              refine p_step (by exact rfl) (y_nil (et (gS rfl (gS rfl (gS rfl (gS rfl (gS rfl (gS rfl (gS rfl (gS rfl g0)))))))) rfl)) ?_
                                              refine p_step (by exact rfl) (y_fld fld_104_0 (et g0 rfl)) ?_
                                              refine p_step (by exact rfl) (y_fld fld_102_11 (et g0 rfl)) ?_
                                              refine p_effN (by exact rfl) (e_store sz_95 (et g0 rfl) (cellsV (et (gS rfl (gS rfl (gS rfl g0))) rfl) (cells_one n980.one1)) rfl (by exact one_sgl n980.one1) k13 (by (rw [List.size_toArray, stC_len]; decide))) (fun v81 w81 h81 => ?_)
                                              obtain ⟨rfl, x81⟩ := h81
                                              replace k2 := k2.ch x81.ch (by omega)
                                              replace k30 := k30.ch x81.ch (by omega)
                                              replace k34 := k34.ch x81.ch (by omega)
                                              replace k13 := x81.blk
                                              replace hO := hO.wr x81 (by first | omega | (right; omega))
                                              replace G := G.wr x81 (by first | exact .inr f13 | exact .inl rfl | omega | (simp; omega)) nb13
                                              replace V22 := V22.wr x81 (by first | exact .inr f13 | exact .inl rfl | omega | (simp; omega)) nb13
                                              replace hF := G.fz
                                              replace U := U.st x81 f13
                                              refine ⟨.inl rfl, ?_⟩
                                              rw [stC_tot rfl] at k13
                                              refine p_nil ?_
                                              refine hQ27 _ _ _ (in_normal ?_)
                                              refine hK26 _ _ ?_
                                              refine fg4 6 34 35 36 (gS rfl (gS rfl (gS rfl (gS rfl (gS rfl (gS rfl (gS rfl (gS rfl (gS rfl (gS rfl (gS rfl (gS rfl (gS rfl (gS rfl (gS rfl (gS rfl g0)))))))))))))))) (gS rfl (gS rfl (gS rfl (gS rfl (gS rfl (gS rfl (gS rfl (gS rfl (gS rfl (gS rfl (gS rfl (gS rfl (gS rfl (gS rfl g0)))))))))))))) (gS rfl (gS rfl (gS rfl (gS rfl (gS rfl (gS rfl (gS rfl (gS rfl (gS rfl (gS rfl (gS rfl (gS rfl (gS rfl g0))))))))))))) (gS rfl (gS rfl (gS rfl (gS rfl (gS rfl (gS rfl (gS rfl (gS rfl (gS rfl (gS rfl (gS rfl (gS rfl g0)))))))))))) (fun g => ?_)
                                              refine c_region ?_
                                              refine l_step (y_add (et g0 rfl) rfl (addIN (y := 1) ?_)) ?_
                                              omega
                                              refine l_step (y_moveV (et g0 rfl)) ?_
                                              refine l_nil ?_
                                              refine fK4 6 34 35 36 (gS rfl (gS rfl (gS rfl (gS rfl (gS rfl g0))))) (gS rfl (gS rfl (gS rfl (gS rfl g0)))) (gS rfl (gS rfl (gS rfl g0))) g0 (fun g => ?_)
                                              exact hK22 (l.length - ((i + 1))) _ _ (by omega) ⟨g, _, _, _, _, (i + 1), rfl, rfl, by omega, hO.mono (by have h1 := x78.ch.size; have h2 := g80.ch.size; have h3 := x81.ch.size; have h6 := hu.size; omega), by rw [← List.take_append_getElem hil]; exact hRW.snoc ac_len ⟨_, _, _, _, rfl, hal, hnn, hbb, hbc, lvz73, hb21, hb22, by omega⟩, hnM, by rw [sum_take hil]; exact n980, k13, V22⟩)))))))))
                      · skip
                        
                        have hil : ¬ i < l.length := by have := of_decide_eq_false cB2; omega
                        rw [List.take_of_length_le (show l.length ≤ i by omega)] at hRW hTt
                        have hO2 := hO.of_raw hRW
                        obtain ⟨Hz82, Gz82, hlz82, lvz82, hnz82⟩ := hO2.keep' mono_acct G (Le.refl _) hbw
                        replace G := Gz82
                        replace hF := G.fz
                        replace l917 := l917.mono hlz82
                        replace hRW := hRW.mono hlz82
                        replace hTt := hTt.mono hlz82
                        replace hL0 := hL0.trans hlz82
                        replace nb2 := fun hh => (hnz82 _ hh).elim nb2 (fun e => hO2.ne (by omega) e)
                        replace nb13 := fun hh => (hnz82 _ hh).elim nb13 (fun e => hO2.ne (by omega) e)
                        refine c_exit ?_
                        refine hQ21 _ _ _ (in_exit ?_)
                        refine hK19 _ _ ?_
                        refine fg1 6 (gS rfl (gS rfl (gS rfl (gS rfl g0)))) (fun g => ?_)
                        refine c_seq (fun K83 hK83 => ?_)
                        exact (by
                          refine c_region ?_
                          refine l_step (y_moveV (et g0 rfl)) ?_
                          refine l_step (y_assignV (et g0 rfl)) ?_
                          refine l_step y_assignC ?_
                          refine l_nil ?_
                          refine hK83 _ _ ?_
                          refine fg2 4 5 (gS rfl g0) g0 (fun g => ?_)
                          refine c_ret ?_
                          repeat with_reducible refine then_ret ?_
                          refine ret2 rfl (res_tmp (et (gS rfl g0) rfl)) (res_tmp (et g0 rfl)) ?_
                          obtain ⟨aa9, ac9, e9, _⟩ := lvz82.val
                          have hSC := SC.rest (ini_rest l e) e9 lvz82 hTt rfl l917 ⟨heb.coinbase, heb.number, heb.time, heb.gasLimit, heb.randao, heb.chainID, heb.baseFee, hh4⟩ (by have := hok.len; show l.length < 1048576; omega) (by show 0 < 256; decide) hok.sum
                          exact ⟨true, ⟨fun _ => ⟨hok, hh4⟩, fun _ => rfl⟩, fun h9 => (by cases h9), fun _ => ⟨_, _, rfl, G, f13, ⟨hF, nb13, _, k13, hSC, stC_4⟩⟩⟩))))))))
end Go.Proofs.YgvaawGreat
