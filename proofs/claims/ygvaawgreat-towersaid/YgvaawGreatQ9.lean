import Derived.Test.YgvaawGreatQ8
import Derived.Test.YgvaawGreatE15
import Derived.Test.YgvaawGreatY53
import Derived.Test.YgvaawGreatZ27
set_option maxRecDepth 100000
set_option maxHeartbeats 4000000
set_option linter.unusedSimpArgs false
set_option linter.unusedVariables false
namespace Go.Proofs.YgvaawGreat
open Go
/-! The chain's cells at the start. -/
def zArn : List Value := [.slice none 0 0] ++ (List.replicate 8 (.int .u32 0) ++ [.int .u8 0])
def zStk : List Value := List.replicate 1792 (.int .u64 0)
def zFrm : List Value := (List.replicate 7 (([[.int .u8 0], [.int .u8 0], [.int .u8 0], [.bool false], [.int .u16 0], [.int .u16 0], [.int .u16 0], [.int .u64 0], [.int .i32 0], (List.replicate 20 (.int .u8 0)), (List.replicate 20 (.int .u8 0)), (List.replicate 4 (.int .u64 0)), [.slice none 0 0], [.slice none 0 0], (List.replicate 8 (.int .u64 0)), [.int .u32 0], [.int .u32 0]] : List (List Value)).flatten) : List (List Value)).flatten
def mC (v0 : Value) (t : Int) (E : List Value) : List Value := [v0] ++ (zArn ++ (zStk ++ (zFrm ++ ([.int .i8 t] ++ ([.slice none 0 0] ++ (E ++ (bL (be 20 0) ++ (wL 0 ++ ([.int .u8 0, .int .u8 0, .int .u8 0, .int .u64 0, .int .u64 0] ++ (wL 0 ++ ([.int .i32 0, .int .i32 0] ++ bL (be 20 0))))))))))))
def zVlt : List Value := [.slice none 0 0, .slice none 0 0] ++ (List.replicate 4096 (.int .i32 0) ++ (List.replicate 4096 (.int .i32 0) ++ ([.slice none 0 0] ++ (List.replicate 16384 (.int .i32 0) ++ [.int .i32 0, .int .u64 0, .slice none 0 0, .slice none 0 0, .slice none 0 0]))))
def zTree : List Value := [.slice none 0 0, .int .i32 0, .int .i32 0, .slice none 0 0, .bool false]
def zChn : List Value := mC (.pointer none) 0 (envC env0 (.slice none 0 0)) ++ (zVlt ++ zTree)
theorem zr_91 : Zr 91 (.agg zChn.toArray) := by
  show (Hvaa.prog.info? 91).bind (·.zero) = _
  kernel_rfl
theorem zFrm_len : zFrm.length = 455 := by kernel_rfl
theorem zArn_len : zArn.length = 10 := rfl
theorem zVlt_len : zVlt.length = 24584 := by
  unfold zVlt
  simp only [List.length_append, List.length_replicate, List.length_cons, List.length_nil]
theorem mC_len (v0 : Value) (t : Int) {E : List Value} (hE : E.length = 120) : (mC v0 t E).length = 2435 := by
  unfold mC zStk
  simp only [List.length_append, List.length_replicate, List.length_cons, List.length_nil, zFrm_len, zArn_len, hE, length_bL, length_be, wL_len]
theorem zChn_len : zChn.length = 27024 := by
  unfold zChn
  rw [List.length_append, List.length_append, mC_len _ _ (envC_len _ _), zVlt_len]
  rfl
theorem RowIn.q9 {cs : Array Value} {o i : Nat} {l : List Value} {v : Value} (h : RowIn cs o l) (hv : l[i]? = some v) {q : Nat} (e : q = o + i) : cs[q]? = some v := by
  rw [e]
  exact h i v hv
theorem row_rep {cs : Array Value} {o n i : Nat} {v : Value} (h : RowIn cs o (List.replicate n v)) (hi : i < n) : cs[o + i]? = some v := h i v (by rw [List.getElem?_replicate, if_pos hi])
theorem mC_E {v0 : Value} {t : Int} {E F : List Value} {o : Nat} (h1 : E.length = 120) (h2 : F.length = 120) (ho : o = 2260) : spl (mC v0 t E).toArray o F = (mC v0 t F).toArray := by
  subst ho
  have h := spl_app (A := [v0] ++ (zArn ++ (zStk ++ (zFrm ++ ([.int .i8 t] ++ [.slice none 0 0]))))) (M := E) (C := bL (be 20 0) ++ (wL 0 ++ ([.int .u8 0, .int .u8 0, .int .u8 0, .int .u64 0, .int .u64 0] ++ (wL 0 ++ ([.int .i32 0, .int .i32 0] ++ bL (be 20 0)))))) (Q := F) (by rw [h1, h2])
  have hl : ([v0] ++ (zArn ++ (zStk ++ (zFrm ++ ([Value.int .i8 t] ++ [Value.slice none 0 0]))))).length = 2260 := by
    unfold zStk
    simp only [List.length_append, List.length_replicate, List.length_cons, List.length_nil, zFrm_len, zArn_len]
  rw [hl] at h
  unfold mC
  simpa only [List.append_assoc] using h
theorem env_h {e : YEnv} {vh v : Value} {o : Nat} (ho : o = 119) : spl (envC e vh).toArray o [v] = (envC e v).toArray := by
  subst ho
  have h := spl_mid (bL (be 20 e.coinbase) ++ ([.int .u64 (e.number : Nat), .int .u64 (e.time : Nat), .int .u64 (e.gasLimit : Nat)] ++ (bL (be 32 e.randao) ++ (bL (be 32 e.chainID) ++ bL (be 32 e.baseFee))))) vh [] v 119 (by
    simp only [List.length_append, length_bL, length_be, List.length_cons, List.length_nil])
  unfold envC
  simpa only [List.append_assoc] using h
theorem mC_h {v0 : Value} {t : Int} {e : YEnv} {vh v : Value} {o : Nat} (ho : o = 2379) : spl (mC v0 t (envC e vh)).toArray o [v] = (mC v0 t (envC e v)).toArray := by
  subst ho
  have h := spl_mid ([v0] ++ (zArn ++ (zStk ++ (zFrm ++ ([.int .i8 t] ++ ([.slice none 0 0] ++ (bL (be 20 e.coinbase) ++ ([.int .u64 (e.number : Nat), .int .u64 (e.time : Nat), .int .u64 (e.gasLimit : Nat)] ++ (bL (be 32 e.randao) ++ (bL (be 32 e.chainID) ++ bL (be 32 e.baseFee))))))))))) vh (bL (be 20 0) ++ (wL 0 ++ ([.int .u8 0, .int .u8 0, .int .u8 0, .int .u64 0, .int .u64 0] ++ (wL 0 ++ ([.int .i32 0, .int .i32 0] ++ bL (be 20 0)))))) v 2379 (by
    unfold zStk
    simp only [List.length_append, List.length_replicate, List.length_cons, List.length_nil, zFrm_len, zArn_len, length_bL, length_be])
  unfold mC envC
  simpa only [List.append_assoc, List.cons_append, List.nil_append] using h
theorem mC_hat {v0 : Value} {t : Int} {e : YEnv} {vh : Value} {o : Nat} (ho : o = 2379) : (mC v0 t (envC e vh)).toArray[o]? = some vh := by
  rw [← mC_h (vh := vh) (v := vh) ho, ho]
  exact sp0 (by rw [List.size_toArray, mC_len _ _ (envC_len _ _)]; decide)
theorem bld_mach {v0 : Value} {E : List Value} (h1 : v0.one1 = true) (hE : E.length = 120) (w : World) : (Instr.build 75 ([(0, v0), (4, Value.int .i8 (-1)), (6, Value.agg E.toArray)] : List (Nat × Value)).toArray).run Hvaa.prog w = .ok (Value.agg (mC v0 (-1) E).toArray) w := by
  have h : (Instr.build 75 ([(0, v0), (4, Value.int .i8 (-1)), (6, Value.agg E.toArray)] : List (Nat × Value)).toArray).run Hvaa.prog w = .ok (Value.agg ([([v0]), ([[Value.slice none 0 0], (List.replicate 8 (Value.int .u32 0)), [Value.int .u8 0]] : List (List Value)).flatten, (List.replicate 448 ((List.replicate 4 (Value.int .u64 0))) : List (List Value)).flatten, (List.replicate 7 (([[Value.int .u8 0], [Value.int .u8 0], [Value.int .u8 0], [Value.bool false], [Value.int .u16 0], [Value.int .u16 0], [Value.int .u16 0], [Value.int .u64 0], [Value.int .i32 0], (List.replicate 20 (Value.int .u8 0)), (List.replicate 20 (Value.int .u8 0)), (List.replicate 4 (Value.int .u64 0)), [Value.slice none 0 0], [Value.slice none 0 0], (List.replicate 8 (Value.int .u64 0)), [Value.int .u32 0], [Value.int .u32 0]] : List (List Value)).flatten) : List (List Value)).flatten, ([Value.int .i8 (-1)]), [Value.slice none 0 0], (E), (List.replicate 20 (Value.int .u8 0)), (List.replicate 4 (Value.int .u64 0)), [Value.int .u8 0], [Value.int .u8 0], [Value.int .u8 0], [Value.int .u64 0], [Value.int .u64 0], (List.replicate 4 (Value.int .u64 0)), [Value.int .i32 0], [Value.int .i32 0], (List.replicate 20 (Value.int .u8 0))] : List (List Value)).flatten.toArray) w := bld_run zr_75 plc_75 (fill_flat (off := 0) (k := 1) (f := [.pointer none]) (c := [v0]) (v := v0) rfl (cells_one h1) (by first | rfl | (simp [hE]; done) | kernel_rfl) (by first | rfl | (simp [hE]; done) | kernel_rfl) rfl (by first | rfl | (simp [hE]; done) | kernel_rfl) (fill_flat (off := 2258) (k := 1) (f := [Value.int .i8 0]) (c := [Value.int .i8 (-1)]) (v := Value.int .i8 (-1)) rfl rfl (by first | rfl | (simp [hE]; done) | kernel_rfl) (by first | rfl | (simp [hE]; done) | kernel_rfl) rfl (by first | rfl | (simp [hE]; done) | kernel_rfl) (fill_flat (off := 2260) (k := 120) (f := ([(List.replicate 20 (Value.int .u8 0)), [Value.int .u64 0], [Value.int .u64 0], [Value.int .u64 0], (List.replicate 32 (Value.int .u8 0)), (List.replicate 32 (Value.int .u8 0)), (List.replicate 32 (Value.int .u8 0)), [Value.slice none 0 0]] : List (List Value)).flatten) (c := E) (v := Value.agg E.toArray) rfl rfl (by first | rfl | (simp [hE]; done) | kernel_rfl) (by first | rfl | (simp [hE]; done) | kernel_rfl) rfl (by first | rfl | (simp [hE]; done) | kernel_rfl) (fill_nil _ _)))) w
  rw [h]
  congr 2
theorem m_new {w : World} {H : Store} (hF : Fz w H) {bc : Nat} {e : YEnv} {ha : Option Addr} {hc : Nat} (hH : LV P_word 32 H (.slice ha e.hashes.length hc) e.hashes) (hn : e.hashes.length ≤ 4) :
    Ret 29 [.pointer (some ⟨bc, 2435, none⟩), .agg (envC e (.slice ha e.hashes.length hc)).toArray] w (fun v w' => ∃ bm H' vha vhc, v = .pointer (some ⟨bm, 0, none⟩) ∧ Go No w H w' H' ∧ w.heap.size ≤ bm ∧ ¬ H'.has bm ∧ Blk w' bm (mC (.pointer (some ⟨bc, 2435, none⟩)) (-1) (envC e (.slice vha e.hashes.length vhc))).toArray ∧ LV P_word 32 H' (.slice vha e.hashes.length vhc) e.hashes) := by
  obtain ⟨cs, hSV, hcl, hcp, hone⟩ := hH.raw one_words
  have hF0 := hF
  refine enter (n := 35) Hvaa.func29 rfl rfl (Nat.le_of_ble_eq_true rfl) ?_
  have U := Up.refl w
  have G : Go (No) w H w H := Go.refl hF
  have hL0 : Le H H := Le.refl H
  refine c_seq (fun K1 hK1 => ?_)
  exact (by
    refine c_region ?_
    refine l_eff (e_boxV (et (gS rfl g0) rfl)) (fun v2 w2 h2 => ?_)
    obtain ⟨b2, rfl, n2⟩ := h2
    have f2 : w.heap.size ≤ b2 := Nat.le_trans U.size n2.fresh
    have nb2 := hF.nb n2.fresh
    replace G := G.tr (Go.ofUp hF n2.up)
    replace hF := hF.up n2.up
    replace U := U.tr n2.up
    have k2 := n2.blk
    replace k2 : Blk w2 b2 (envC e (.slice ha e.hashes.length hc)).toArray := k2
    refine l_step y_assignC ?_
    refine l_nil ?_
    refine hK1 _ _ ?_
    refine fg2 0 3 (gS rfl (gS rfl g0)) (gS rfl g0) (fun g => ?_)
    refine c_seq (fun K3 hK3 => ?_)
    exact (by
      refine c_region ?_
      refine l_step (y_moveV (et (gS rfl g0) rfl)) ?_
      refine l_step (y_loadB agg_31 sz_31 (et (gS rfl g0) rfl) (by rw [List.size_toArray, envC_len]) (at1B k2)) ?_
      refine l_step (y_bld (bC (et (gS rfl g0) rfl) (bC rfl (bC (et g0 rfl) bN))) (bld_mach rfl (envC_len _ _))) ?_
      refine l_eff (e_boxV (et g0 rfl)) (fun v4 w4 h4 => ?_)
      obtain ⟨b4, rfl, n4⟩ := h4
      have d2_4 : b2 < b4 := Nat.lt_of_lt_of_le k2.lt n4.fresh
      have f4 : w.heap.size ≤ b4 := Nat.le_trans U.size n4.fresh
      have nb4 := hF.nb n4.fresh
      replace G := G.tr (Go.ofUp hF n4.up)
      replace hF := hF.up n4.up
      replace k2 := k2.up n4.up
      replace U := U.tr n4.up
      have k4 := n4.blk
      replace k4 : Blk w4 b4 (mC (.pointer (some ⟨bc, 2435, none⟩)) (-1) (envC e (.slice ha e.hashes.length hc))).toArray := k4
      refine l_step (y_assignV (et g0 rfl)) ?_
      refine l_nil ?_
      refine hK3 _ _ ?_
      refine fg2 3 5 (gS rfl (gS rfl (gS rfl (gS rfl (gS rfl g0))))) g0 (fun g => ?_)
      refine c_seq (fun K5 hK5 => ?_)
      exact (by
        refine c_region ?_
        refine l_step (y_moveV (et g0 rfl)) ?_
        refine l_step (y_nil (et g0 rfl)) ?_
        refine l_step (y_fld fld_75_6 (et g0 rfl)) ?_
        refine l_step (y_fld fld_31_7 (et g0 rfl)) ?_
        refine l_effN (e_store sz_29 (et g0 rfl) (cellsV rfl rfl) rfl (by first | exact one_bL _ | exact one_uL _ | (intro v hv; simp at hv; subst hv; rfl)) k4 (by (rw [List.size_toArray, mC_len _ _ (envC_len _ _)]; decide))) (fun v6 w6 h6 => ?_)
        obtain ⟨rfl, x6⟩ := h6
        replace k2 := k2.ch x6.ch (by omega)
        replace k4 := x6.blk
        replace G := G.wr x6 (by first | exact .inr f4 | exact .inl rfl | omega | (simp; omega)) nb4
        replace hF := G.fz
        replace U := U.st x6 f4
        rw [mC_h rfl] at k4
        refine l_nil ?_
        refine hK5 _ _ ?_
        refine fg2 3 5 (gS rfl (gS rfl (gS rfl (gS rfl (gS rfl g0))))) (gS rfl (gS rfl (gS rfl (gS rfl g0)))) (fun g => ?_)
        refine c_seq (fun K7 hK7 => ?_)
        refine c_seq (fun K8 hK8 => ?_)
        exact (by
          refine c_region ?_
          refine l_step (y_fld fld_31_7 (et (gS rfl g0) rfl)) ?_
          refine l_step (y_load1 one_29 (et g0 rfl) (at1 (k2.cell (envC_h _ _)))) ?_
          refine l_step (y_len Hvaa.underlying29 (et g0 rfl)) ?_
          refine l_step (y_gtr (et g0 rfl) rfl) ?_
          refine l_nil ?_
          refine hK8 _ _ ?_
          refine fg3 3 5 17 (gS rfl (gS rfl (gS rfl (gS rfl (gS rfl g0))))) (gS rfl (gS rfl (gS rfl (gS rfl g0)))) g0 (fun g => ?_)
          refine c_cond (et g0 rfl) (fun cB1 => ?_) (fun cB1 => ?_)
          · skip
            
            have hn0 : 0 < e.hashes.length := by have := of_decide_eq_true cB1; omega
            obtain ⟨sb, so_, rfl, hsb, hsr⟩ : ∃ b o, ha = some ⟨b, o, none⟩ ∧ H.has b ∧ Row w6 b o cs.flatten := hSV.at'.elim (fun h => absurd h.2 (by omega)) (fun ⟨b, o, c', ds, e9, g1, g2, g3, g4⟩ => by cases e9; exact ⟨b, o, rfl, ⟨ds, g3⟩, ((hF0.blk b ds g3).row g4).up U⟩)
            have hsl := hF0.lt hsb
            refine c_seq (fun K10 hK10 => ?_)
            exact (by
              refine c_region ?_
              refine l_step (y_moveV (et (gS rfl g0) rfl)) ?_
              refine l_step (y_fld fld_31_7 (et (gS rfl (gS rfl (gS rfl g0))) rfl)) ?_
              refine l_step (y_load1 one_29 (et g0 rfl) (at1 (k2.cell (envC_h _ _)))) ?_
              refine l_step (y_len Hvaa.underlying29 (et g0 rfl)) ?_
              refine l_eff (e_make Hvaa.underlying29 sz_28 zr_28 by_28 (et g0 rfl) (et g0 rfl) (by omega) (by omega)) (fun v11 w11 h11 => ?_)
              obtain ⟨b11, rfl, n11⟩ := h11
              have d2_11 : b2 < b11 := Nat.lt_of_lt_of_le k2.lt n11.fresh
              have d4_11 : b4 < b11 := Nat.lt_of_lt_of_le k4.lt n11.fresh
              have f11 : w.heap.size ≤ b11 := Nat.le_trans U.size n11.fresh
              have nb11 := hF.nb n11.fresh
              replace G := G.tr (Go.ofUp hF n11.up)
              replace hF := hF.up n11.up
              replace k2 := k2.up n11.up
              replace k4 := k4.up n11.up
              replace U := U.tr n11.up
              have k11 := n11.blk
              replace hsr := hsr.up n11.up
              refine l_step (y_nil (et (gS rfl (gS rfl (gS rfl (gS rfl g0)))) rfl)) ?_
              refine l_step (y_fld fld_75_6 (et g0 rfl)) ?_
              refine l_step (y_fld fld_31_7 (et g0 rfl)) ?_
              refine l_effN (e_store sz_29 (et g0 rfl) (cellsV (et (gS rfl (gS rfl (gS rfl g0))) rfl) rfl) rfl (by first | exact one_bL _ | exact one_uL _ | (intro v hv; simp at hv; subst hv; rfl)) k4 (by (rw [List.size_toArray, mC_len _ _ (envC_len _ _)]; decide))) (fun v12 w12 h12 => ?_)
              obtain ⟨rfl, x12⟩ := h12
              replace k2 := k2.ch x12.ch (by omega)
              replace k11 := k11.ch x12.ch (by omega)
              replace k4 := x12.blk
              replace G := G.wr x12 (by first | exact .inr f4 | exact .inl rfl | omega | (simp; omega)) nb4
              replace hF := G.fz
              replace U := U.st x12 f4
              rw [mC_h rfl] at k4
              replace hsr := hsr.ch x12.ch (by omega)
              refine l_nil ?_
              refine hK10 _ _ ?_
              refine fg2 3 5 (gS rfl (gS rfl (gS rfl (gS rfl (gS rfl (gS rfl (gS rfl (gS rfl (gS rfl (gS rfl g0)))))))))) (gS rfl (gS rfl (gS rfl (gS rfl (gS rfl (gS rfl (gS rfl (gS rfl (gS rfl g0))))))))) (fun g => ?_)
              refine c_draw Up 7 [(0, true), (1, true), (2, true), (3, true), (4, true), (5, true), (6, true), (7, false)] (by kernel_rfl) (fun w13 hu => ⟨Up.refl _, ?_⟩)
              replace G := G.tr (Go.ofUp hF hu)
              replace hF := hF.up hu
              replace k2 := k2.up hu
              replace k4 := k4.up hu
              replace k11 := k11.up hu
              replace U := U.tr hu
              have SU := Up.refl w13
              exact (by
                refine p_step (by exact rfl) (y_moveV (et g0 rfl)) ?_
                refine p_step (by exact rfl) (y_nil (et g0 rfl)) ?_
                refine p_step (by exact rfl) (y_fld fld_75_6 (et g0 rfl)) ?_
                refine p_step (by exact rfl) (y_fld fld_31_7 (et g0 rfl)) ?_
                refine p_step (by exact rfl) (y_load1 one_29 (et g0 rfl) (atS (k4.cell (mC_hat rfl)))) ?_
                refine p_step (by exact rfl) (y_fld fld_31_7 (et (gS rfl (gS rfl (gS rfl (gS rfl (gS rfl (gS rfl g0)))))) rfl)) ?_
                refine p_step (by exact rfl) (y_load1 one_29 (et g0 rfl) (atS (k2.cell (envC_h _ _)))) ?_
                replace hsr := hsr.up hu
                refine p_eff (by exact rfl) (e_copyK Hvaa.underlying29 sz_28 (et (gS rfl (gS rfl g0)) rfl) (et g0 rfl) (l := cs.flatten) (by rw [hSV.len, Nat.min_self]) hsr hone k11 (by rw [hSV.len, size_made]; omega)) (fun v14 w14 h14 => ?_)
                obtain ⟨rfl, x14⟩ := h14
                replace G := G.chs x14.ch (by intro b hb; first | omega | exact .inl hb | (simp at hb ⊢; omega)) (by intro q hq; first | (subst hq; assumption) | (simp only at hq; first | (subst hq; assumption) | (rcases hq with rfl | rfl <;> assumption)))
                replace hF := G.fz
                replace k2 := k2.ch x14.ch (by omega)
                replace k4 := k4.ch x14.ch (by omega)
                replace k11 := x14.blk
                replace U := U.cc x14.ch (by intro b hb; first | exact hb ▸ f11 | omega)
                refine ⟨.inl rfl, ?_⟩
                rw [spl_full9 (by rw [hSV.len, size_made])] at k11
                refine p_nil ?_
                refine hK7 _ _ ?_
                refine fg1 5 (gS rfl (gS rfl (gS rfl (gS rfl (gS rfl (gS rfl (gS rfl (gS rfl g0)))))))) (fun g => ?_)
                refine c_seq (fun K15 hK15 => ?_)
                exact (by
                  refine c_region ?_
                  refine l_step (y_moveV (et g0 rfl)) ?_
                  refine l_step (y_assignV (et g0 rfl)) ?_
                  refine l_nil ?_
                  refine hK15 _ _ ?_
                  refine fg1 4 g0 (fun g => ?_)
                  refine c_ret ?_
                  repeat with_reducible refine then_ret ?_
                  refine ret1 rfl (res_tmp (et g0 rfl)) ?_
                  obtain ⟨H2, g2, l2, e2, hn2⟩ := G.hold' k11 f11
                  exact ⟨_, H2, _, _, rfl, g2, f4, fun hh => (hn2 _ hh).elim nb4 (by omega), k4, LV.ofNew e2 l2 mono_word rfl (by omega) hcl hcp⟩)))
          · skip
            
            have hn0 : e.hashes.length = 0 := by have := of_decide_eq_false cB1; omega
            have hnil : e.hashes = [] := List.length_eq_zero_iff.1 hn0
            refine c_skip ?_
            refine hK7 _ _ ?_
            refine fg1 5 (gS rfl g0) (fun g => ?_)
            refine c_seq (fun K16 hK16 => ?_)
            exact (by
              refine c_region ?_
              refine l_step (y_moveV (et g0 rfl)) ?_
              refine l_step (y_assignV (et g0 rfl)) ?_
              refine l_nil ?_
              refine hK16 _ _ ?_
              refine fg1 4 g0 (fun g => ?_)
              refine c_ret ?_
              repeat with_reducible refine then_ret ?_
              refine ret1 rfl (res_tmp (et g0 rfl)) ?_
              exact ⟨_, _, none, 0, rfl, G, f4, nb4, by rw [hn0]; exact k4, by rw [hnil]; exact LV.nil _ _ _⟩)))))
end Go.Proofs.YgvaawGreat
