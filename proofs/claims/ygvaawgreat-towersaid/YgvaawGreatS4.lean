import Derived.Test.YgvaawGreatRa
import Derived.Test.YgvaawGreatY46
set_option maxRecDepth 100000
set_option maxHeartbeats 4000000
set_option linter.unusedSimpArgs false
set_option linter.unusedVariables false
namespace Go.Proofs.YgvaawGreat
open Go
theorem bld_sk2 {a i : Nat} (w : World) : (Instr.build 170 ([(1, Value.agg (wL a).toArray), (2, Value.int .i32 (i : Nat))] : List (Nat × Value)).toArray).run Hvaa.prog w = .ok (Value.agg (skC ⟨0, a, i⟩).toArray) w := by
  have h : (Instr.build 170 ([(1, Value.agg (wL a).toArray), (2, Value.int .i32 (i : Nat))] : List (Nat × Value)).toArray).run Hvaa.prog w = .ok (Value.agg ([[Value.int .i32 0], (wL a), ([Value.int .i32 (i : Nat)])] : List (List Value)).flatten.toArray) w := bld_run zr_170 plc_170 (fill_flat (off := 1) (k := 4) (f := (List.replicate 4 (Value.int .u64 0))) (c := wL a) (v := Value.agg (wL a).toArray) rfl rfl (by first | rfl | (simp [length_bL, length_be]; done)) (by first | rfl | (simp [length_bL, length_be]; done)) rfl (by first | rfl | (simp [length_bL, length_be]; done)) (fill_flat (off := 5) (k := 1) (f := [Value.int .i32 0]) (c := [Value.int .i32 (i : Nat)]) (v := Value.int .i32 (i : Nat)) rfl rfl (by first | rfl | (simp [length_bL, length_be]; done)) (by first | rfl | (simp [length_bL, length_be]; done)) rfl (by first | rfl | (simp [length_bL, length_be]; done)) (fill_nil _ _))) w
  rw [h]
  rfl
theorem bld_sk3 {q a i : Nat} (w : World) : (Instr.build 170 ([(0, Value.int .i32 (q : Nat)), (1, Value.agg (wL a).toArray), (2, Value.int .i32 (i : Nat))] : List (Nat × Value)).toArray).run Hvaa.prog w = .ok (Value.agg (skC ⟨q, a, i⟩).toArray) w := by
  have h : (Instr.build 170 ([(0, Value.int .i32 (q : Nat)), (1, Value.agg (wL a).toArray), (2, Value.int .i32 (i : Nat))] : List (Nat × Value)).toArray).run Hvaa.prog w = .ok (Value.agg ([([Value.int .i32 (q : Nat)]), (wL a), ([Value.int .i32 (i : Nat)])] : List (List Value)).flatten.toArray) w := bld_run zr_170 plc_170 (fill_flat (off := 0) (k := 1) (f := [Value.int .i32 0]) (c := [Value.int .i32 (q : Nat)]) (v := Value.int .i32 (q : Nat)) rfl rfl (by first | rfl | (simp [length_bL, length_be]; done)) (by first | rfl | (simp [length_bL, length_be]; done)) rfl (by first | rfl | (simp [length_bL, length_be]; done)) (fill_flat (off := 1) (k := 4) (f := (List.replicate 4 (Value.int .u64 0))) (c := wL a) (v := Value.agg (wL a).toArray) rfl rfl (by first | rfl | (simp [length_bL, length_be]; done)) (by first | rfl | (simp [length_bL, length_be]; done)) rfl (by first | rfl | (simp [length_bL, length_be]; done)) (fill_flat (off := 5) (k := 1) (f := [Value.int .i32 0]) (c := [Value.int .i32 (i : Nat)]) (v := Value.int .i32 (i : Nat)) rfl rfl (by first | rfl | (simp [length_bL, length_be]; done)) (by first | rfl | (simp [length_bL, length_be]; done)) rfl (by first | rfl | (simp [length_bL, length_be]; done)) (fill_nil _ _)))) w
  rw [h]
  rfl
theorem bld_oa {A : YAcct} {vc : Value} (h1 : vc.one1 = true) (w : World) : (Instr.build 113 ([(0, Value.agg (bL (be 20 A.addr)).toArray), (1, Value.int .u64 (A.nonce : Nat)), (2, Value.agg (bL (be 32 A.bal)).toArray), (3, vc)] : List (Nat × Value)).toArray).run Hvaa.prog w = .ok (Value.agg (oaC A vc (Value.slice none 0 0)).toArray) w := by
  have h : (Instr.build 113 ([(0, Value.agg (bL (be 20 A.addr)).toArray), (1, Value.int .u64 (A.nonce : Nat)), (2, Value.agg (bL (be 32 A.bal)).toArray), (3, vc)] : List (Nat × Value)).toArray).run Hvaa.prog w = .ok (Value.agg ([(bL (be 20 A.addr)), ([Value.int .u64 (A.nonce : Nat)]), (bL (be 32 A.bal)), ([vc]), [Value.slice none 0 0]] : List (List Value)).flatten.toArray) w := bld_run zr_113 plc_113 (fill_flat (off := 0) (k := 20) (f := (List.replicate 20 (Value.int .u8 0))) (c := bL (be 20 A.addr)) (v := Value.agg (bL (be 20 A.addr)).toArray) rfl rfl (by first | (simp [length_bL, length_be]; done) | rfl) (by first | (simp [length_bL, length_be]; done) | rfl) rfl (by first | (simp [length_bL, length_be]; done) | rfl) (fill_flat (off := 20) (k := 1) (f := [Value.int .u64 0]) (c := [Value.int .u64 (A.nonce : Nat)]) (v := Value.int .u64 (A.nonce : Nat)) rfl rfl (by first | (simp [length_bL, length_be]; done) | rfl) (by first | (simp [length_bL, length_be]; done) | rfl) rfl (by first | (simp [length_bL, length_be]; done) | rfl) (fill_flat (off := 21) (k := 32) (f := (List.replicate 32 (Value.int .u8 0))) (c := bL (be 32 A.bal)) (v := Value.agg (bL (be 32 A.bal)).toArray) rfl rfl (by first | (simp [length_bL, length_be]; done) | rfl) (by first | (simp [length_bL, length_be]; done) | rfl) rfl (by first | (simp [length_bL, length_be]; done) | rfl) (fill_flat (off := 53) (k := 1) (f := [Value.slice none 0 0]) (c := [vc]) (v := vc) rfl (cells_one h1) (by first | (simp [length_bL, length_be]; done) | rfl) (by first | (simp [length_bL, length_be]; done) | rfl) rfl (by first | (simp [length_bL, length_be]; done) | rfl) (fill_nil _ _))))) w
  rw [h]
  unfold oaC
  simp only [List.flatten_cons, List.flatten_nil, List.append_nil, List.cons_append, List.nil_append, List.append_assoc]
theorem mc_ea : MC P_ea := ⟨mono_ea⟩
theorem mc_es : MC P_es := ⟨mono_es⟩
theorem exp_nil {V : EV} (h : aks V.accts V.accts.length = []) : ExpOf V [] := by
  refine ⟨.nil, fun A hA => (by cases hA), fun A hA => (by cases hA), fun i x hx he => ?_⟩
  have : (⟨0, x.addr, i⟩ : SK) ∈ aks V.accts V.accts.length := (aks_mem _).2 ⟨(List.getElem?_eq_some_iff.1 hx).1, x, hx, he, rfl⟩
  rw [h] at this
  cases this
theorem mkA_eq {l : List EAcct} {k : SK} {x : EAcct} (h : l[k.pl]? = some x) : mkA l k = ⟨x.addr, x.nonce, x.bal, x.code, []⟩ := by
  unfold mkA
  rw [h]
def g6 (sl : List ESlot) (S : List SK) (f n i : Nat) : List (Nat × Nat) := ((S.drop f).take i).map (kvS sl) ++ List.replicate (n - i) (0, 0)
theorem g6_zero (sl : List ESlot) (S : List SK) (f n : Nat) : g6 sl S f n 0 = List.replicate n (0, 0) := by
  unfold g6
  simp
theorem g6_len {sl : List ESlot} {S : List SK} {f n i : Nat} (hf : f + n ≤ S.length) (hi : i ≤ n) : (g6 sl S f n i).length = n := by
  unfold g6
  rw [List.length_append, List.length_map, List.length_take, List.length_drop, List.length_replicate]
  omega
theorem g6_set {sl : List ESlot} {S : List SK} {f n i : Nat} (hf : f + n ≤ S.length) (hi : i < n) : (g6 sl S f n i).set i (kvS sl (S[f + i]'(by omega))) = g6 sl S f n (i + 1) := by
  unfold g6
  have h1 : (((S.drop f).take i).map (kvS sl)).length = i := by rw [List.length_map, List.length_take, List.length_drop]; omega
  have hd : i < (S.drop f).length := by rw [List.length_drop]; omega
  rw [List.set_append_right _ _ (by omega), h1, Nat.sub_self, ← List.take_append_getElem hd, List.map_append, List.append_assoc]
  congr 1
  rw [show n - i = (n - (i + 1)) + 1 by omega, List.replicate_succ, List.getElem_drop]
  rfl
theorem g6_all {sl : List ESlot} {S : List SK} {f n : Nat} : g6 sl S f n n = ((S.drop f).take n).map (kvS sl) := by
  unfold g6
  rw [Nat.sub_self, List.replicate_zero, List.append_nil]
theorem kvS_eq {l : List ESlot} {k : SK} {y : ESlot} (h : l[k.pl]? = some y) : kvS l k = (y.key, y.val) := by
  unfold kvS
  rw [h]
theorem take_rank {S : List SK} {f n q : Nat} (hf : f + n < S.length) (h : ∀ x ∈ (S.drop f).take n, x.rank = q) (he : (S[f + n]'hf).rank = q) : ∀ x ∈ (S.drop f).take (n + 1), x.rank = q := by
  intro x hx
  have hd : n < (S.drop f).length := by rw [List.length_drop]; omega
  rw [← List.take_append_getElem hd] at hx
  rcases List.mem_append.1 hx with h1 | h1
  · exact h x h1
  · rw [List.mem_singleton.1 h1, List.getElem_drop]
    exact he
theorem v_export {w : World} {H : Store} (hF : Fz w H) {bc : Nat} {cs : Array Value} {V : EV} {aa sa : Option Addr} {ac sc : Nat} (kC : Blk w bc cs) (h35 : cs[2435]? = some (.slice aa V.accts.length ac)) (h36 : cs[2436]? = some (.slice sa V.slots.length sc)) (hA : LV P_ea 29 H (.slice aa V.accts.length ac) V.accts) (hS : LV P_es 14 H (.slice sa V.slots.length sc) V.slots) (ho : VOk V) :
    Ret 22 [.pointer (some ⟨bc, 2435, none⟩)] w (fun v w' => ∃ H' L, Go No w H w' H' ∧ LV P_oacct 55 H' v L ∧ ExpOf V L) := by
  have lC := kC.lt
  have hba := ho.bd.accts
  have hbs := ho.bd.slots
  refine enter (n := 250) Hvaa.func22 rfl rfl (Nat.le_of_ble_eq_true rfl) ?_
  have U := Up.refl w
  have G : Go (No) w H w H := Go.refl hF
  have hL0 : Le H H := Le.refl H
  refine c_seq (fun K1 hK1 => ?_)
  exact (by
    refine c_region ?_
    refine l_step y_assignC ?_
    refine l_nil ?_
    refine hK1 _ _ ?_
    refine fg1 0 (gS rfl g0) (fun g => ?_)
    refine c_seq (fun K2 hK2 => ?_)
    exact (by
      refine c_region ?_
      refine l_step y_assignC ?_
      refine l_nil ?_
      refine hK2 _ _ ?_
      refine c_seq (fun K3 hK3 => ?_)
      refine c_seq (fun K4 hK4 => ?_)
      exact (by
        refine c_region ?_
        refine l_step (y_moveV (et (gS rfl g0) rfl)) ?_
        refine l_step (y_nil (et g0 rfl)) ?_
        refine l_step (y_fld fld_84_0 (et g0 rfl)) ?_
        refine l_step (y_load1 one_76 (et g0 rfl) (at1 (kC.cell h35))) ?_
        refine l_step (y_len Hvaa.underlying76 (et g0 rfl)) ?_
        refine l_step y_moveC ?_
        refine l_nil ?_
        refine hK4 _ _ ?_
        refine fg4 0 3 22 23 (gS rfl (gS rfl (gS rfl (gS rfl (gS rfl (gS rfl (gS rfl g0))))))) (gS rfl (gS rfl (gS rfl (gS rfl (gS rfl (gS rfl g0)))))) (gS rfl g0) g0 (fun g => ?_)
        refine c_block (fun Q5 hQ5 => ?_)
        refine fg4 0 3 22 23 (gS rfl (gS rfl (gS rfl g0))) (gS rfl (gS rfl g0)) (gS rfl g0) g0 (fun g => ?_)
        obtain ⟨base, hbase⟩ : ∃ base, base = w.heap.size := ⟨_, rfl⟩
        have hbwbase : w.heap.size ≤ base := by rw [hbase]; exact U.size
        have hHbase : ∀ q, Store.has _ q → q < base := fun q hq => by rw [hbase]; exact hF.lt hq
        refine c_loop (fun k_ s_ W6 => ∃ (g : Nat → Value) (Hk6 : Store) (vt : Value) (i : Nat), s_ = (upd (upd (upd (upd g 0 (.pointer (some ⟨bc, 2435, none⟩))) 3 vt) 22 (.int .i64 (V.accts.length : Nat))) 23 (.int .i64 (i : Nat))) ∧ V.accts.length - i = k_ ∧ (i ≤ V.accts.length) ∧ (GL P_sk H base 170 6 W6.heap.size W6 vt (aks V.accts i)) ∧ (aks V.accts i = [] → vt = .slice none 0 0) ∧ (∀ q, Hk6.has q → q < base) ∧ Go (fun k => base ≤ k) w H W6 Hk6) (V.accts.length - (0)) ?_ ?_
        · exact ⟨g, _, (.slice none 0 0), 0, rfl, rfl, Nat.zero_le _, GL.nil, fun _ => rfl, hHbase, Go.refl hF⟩
        · skip
          intro k_ s_ W6 hI K6 hK6
          obtain ⟨g, Hk6, vt, i, rfl, rfl, hi9, hO, hnl, hHb, V6⟩ := hI
          have hle6 := V6.le
          replace hL0 := hL0.trans hle6
          replace G := G.trans V6 (by intro b hb; first | exact hb.elim | omega | (simp at hb ⊢; omega))
          replace hF := V6.fz
          replace kC := kC.ch V6.ch (by first | omega | exact hOo.ne (by omega))
          replace U := U.cc V6.ch (by intro b hb; first | exact hb.elim | omega | (simp at hb ⊢; omega))
          have hbW : base ≤ W6.heap.size := by rw [hbase]; exact V6.ch.size
          refine c_seq (fun K7 hK7 => ?_)
          exact (by
            refine c_region ?_
            refine l_step (y_lss (et g0 rfl) (et (gS rfl g0) rfl)) ?_
            refine l_nil ?_
            refine hK7 _ _ ?_
            refine c_seq (fun K8 hK8 => ?_)
            refine c_cond (et g0 rfl) (fun cB1 => ?_) (fun cB1 => ?_)
            · skip
              
              have hil : i < V.accts.length := by have := of_decide_eq_true cB1; omega
              have hx1 : V.accts[i]? = some V.accts[i] := List.getElem?_eq_getElem hil
              refine c_skip ?_
              refine hK8 _ _ ?_
              refine fg4 0 3 22 23 (gS rfl (gS rfl (gS rfl (gS rfl g0)))) (gS rfl (gS rfl (gS rfl g0))) (gS rfl (gS rfl g0)) (gS rfl g0) (fun g => ?_)
              refine c_seq (fun K10 hK10 => ?_)
              refine c_block (fun Q11 hQ11 => ?_)
              refine c_seq (fun K12 hK12 => ?_)
              exact (by
                refine c_region ?_
                refine l_step (y_moveV (et g0 rfl)) ?_
                refine l_step (y_assignV (et g0 rfl)) ?_
                refine l_nil ?_
                refine hK12 _ _ ?_
                refine fg5 0 3 22 23 4 (gS rfl (gS rfl (gS rfl (gS rfl (gS rfl g0))))) (gS rfl (gS rfl (gS rfl (gS rfl g0)))) (gS rfl (gS rfl (gS rfl g0))) (gS rfl (gS rfl g0)) g0 (fun g => ?_)
                refine c_seq (fun K13 hK13 => ?_)
                exact (by
                  refine c_region ?_
                  refine l_step (y_moveV (et (gS rfl (gS rfl (gS rfl (gS rfl g0)))) rfl)) ?_
                  refine l_step (y_nil (et g0 rfl)) ?_
                  refine l_step (y_fld fld_84_0 (et g0 rfl)) ?_
                  refine l_step (y_load1 one_76 (et g0 rfl) (at1 (kC.cell h35))) ?_
                  refine l_step (y_moveV (et (gS rfl (gS rfl (gS rfl (gS rfl g0)))) rfl)) ?_
                  obtain ⟨Bw, hBw⟩ : ∃ Bw, Bw = W6.heap.size := ⟨_, rfl⟩
                  obtain ⟨bq, oq, Cq, rq, ha0, hBq, hRq, hrl, vcq, hrq, hbvq, hokq⟩ := (hA.mono hL0).rowH (i := i) hil
                  rw [hrq] at hRq hrl
                  obtain ⟨cda, cdc, rfl, hcl9⟩ := hbvq.sv.val
                  have hrow := hBq.row hF hRq
                  refine l_step (y_idxSa ha0 Hvaa.underlying76 sz_167 (et (gS rfl g0) rfl) (et g0 rfl) ?_) ?_
                  omega
                  refine l_eff (e_callV cal_73 (aC (et g0 rfl) aN) (v_emptyR hrow hokq)) (fun v14 w14 h14 => ?_)
                  obtain ⟨rfl, u14⟩ := h14
                  have hsz9 := u14.size
                  replace G := G.tr (Go.ofUp hF u14)
                  replace V6 := V6.tr (Go.ofUp hF u14)
                  replace hF := hF.up u14
                  replace kC := kC.up u14
                  replace hO := hO.up u14
                  replace U := U.tr u14
                  refine l_step (y_not (et g0 rfl)) ?_
                  refine l_nil ?_
                  refine hK13 _ _ ?_
                  refine fg6 0 3 22 23 4 33 (gS rfl (gS rfl (gS rfl (gS rfl (gS rfl (gS rfl (gS rfl (gS rfl (gS rfl (gS rfl (gS rfl (gS rfl g0)))))))))))) (gS rfl (gS rfl (gS rfl (gS rfl (gS rfl (gS rfl (gS rfl (gS rfl (gS rfl (gS rfl (gS rfl g0))))))))))) (gS rfl (gS rfl (gS rfl (gS rfl (gS rfl (gS rfl (gS rfl (gS rfl (gS rfl (gS rfl g0)))))))))) (gS rfl (gS rfl (gS rfl (gS rfl (gS rfl (gS rfl (gS rfl (gS rfl (gS rfl g0))))))))) (gS rfl (gS rfl (gS rfl (gS rfl (gS rfl (gS rfl (gS rfl (gS rfl g0)))))))) g0 (fun g => ?_)
                  refine c_cond (et g0 rfl) (fun cB2 => ?_) (fun cB2 => ?_)
                  · skip
                    
                    have hem : emA V.accts[i] = false := by simpa using cB2
                    exact (by
                      refine c_region ?_
                      refine l_step (y_moveV (et (gS rfl (gS rfl (gS rfl (gS rfl g0)))) rfl)) ?_
                      refine l_step (y_moveV (et (gS rfl (gS rfl (gS rfl (gS rfl (gS rfl (gS rfl g0)))))) rfl)) ?_
                      refine l_step (y_nil (et g0 rfl)) ?_
                      refine l_step (y_fld fld_84_0 (et g0 rfl)) ?_
                      refine l_step (y_load1 one_76 (et g0 rfl) (at1 (kC.cell h35))) ?_
                      refine l_step (y_moveV (et (gS rfl (gS rfl (gS rfl (gS rfl (gS rfl (gS rfl g0)))))) rfl)) ?_
                      have hrow2 := hBq.row hF hRq
                      refine l_step (y_idxSa ha0 Hvaa.underlying76 sz_167 (et (gS rfl g0) rfl) (et g0 rfl) ?_) ?_
                      omega
                      refine l_step (y_fld fld_167_0 (et g0 rfl)) ?_
                      refine l_step (y_loadR agg_25 sz_25 (et g0 rfl) (by rw [length_bL, length_be]) (at1R (eaC_adr hrow2 (by omega)))) ?_
                      refine l_eff (e_callV cal_74 (aC (et g0 rfl) aN) (v_addrWord _ _ hokq.addr)) (fun v16 w16 h16 => ?_)
                      obtain ⟨rfl, u16⟩ := h16
                      replace G := G.tr (Go.ofUp hF u16)
                      replace V6 := V6.tr (Go.ofUp hF u16)
                      replace hF := hF.up u16
                      replace kC := kC.up u16
                      replace hO := hO.up u16
                      replace U := U.tr u16
                      refine l_step (y_moveV (et (gS rfl (gS rfl (gS rfl (gS rfl (gS rfl (gS rfl (gS rfl (gS rfl (gS rfl (gS rfl (gS rfl g0))))))))))) rfl)) ?_
                      refine l_step (y_conv Hvaa.underlying3 Hvaa.underlying21 (et g0 rfl) (wrap_i32 ?_ ?_)) ?_
                      omega
                      omega
                      refine l_step (y_bld (bC (et (gS rfl (gS rfl g0)) rfl) (bC (et g0 rfl) bN)) bld_sk2) ?_
                      refine l_eff (e_slice1 Hvaa.underlying165 sz_170 zr_170 rfl (by decide) (et g0 rfl) (by rw [show (Value.agg ((skC ⟨0, V.accts[i].addr, i⟩)).toArray).cells = ((skC ⟨0, V.accts[i].addr, i⟩)).toArray from rfl, List.size_toArray, (skC_len _)])) (fun v17 w17 h17 => ?_)
                      obtain ⟨b17, rfl, n17⟩ := h17
                      replace G := G.tr (Go.ofUp hF n17.up)
                      replace V6 := V6.tr (Go.ofUp hF n17.up)
                      replace hF := hF.up n17.up
                      replace kC := kC.up n17.up
                      replace hO := hO.up n17.up
                      replace U := U.tr n17.up
                      have kq17 : Blk w17 b17 ((skC ⟨0, V.accts[i].addr, i⟩)).toArray := n17.blk
                      exact (by
                        have hbz : base ≤ w17.heap.size := by have h1 := V6.ch.size; omega
                        have hbd9 := ho.bd.accts
                        have hbd8 := aks_len (l := V.accts) i
                        have hA16 : A160 = 1461501637330902918203684832716283019655932542976 := rfl
                        have hW25 : W256 = 115792089237316195423570985008687907853269984665640564039457584007913129639936 := rfl
                        have had9 := hokq.addr
                        refine l_eff (e_appL Hvaa.underlying165 sz_170 zr_170 by_170 rfl (by decide) (et (gS rfl (gS rfl (gS rfl (gS rfl (gS rfl (gS rfl (gS rfl (gS rfl (gS rfl (gS rfl (gS rfl (gS rfl (gS rfl g0))))))))))))) rfl) hO (et g0 rfl) (skC_len _) kq17 (skC_one _) (show P_sk H _ (⟨0, V.accts[i].addr, i⟩ : SK) from ⟨rfl, (show (0 : Nat) < 4096 by decide), (by show V.accts[i].addr < W256; omega), (by show i < 4096; omega)⟩) (by decide) (by omega) hbz) (fun v18 w18 h18 => ?_)
                        obtain ⟨hO18, c18, hown18⟩ := h18
                        have hOo := hO
                        replace G := G.chs c18 (by intro b hb; have h9 := hOo.lim b hb.symm; first | exact .inr (by omega) | exact .inl (by omega) | omega) (by intro q hq hh; have := hHb q hh; have := hOo.lim q hq.symm; omega)
                        replace V6 := V6.chs c18 (by intro b hb; have h9 := hOo.lim b hb.symm; first | exact .inr (by omega) | exact .inl (by omega) | omega) (by intro q hq hh; have := hHb q hh; have := hOo.lim q hq.symm; omega)
                        replace hF := G.fz
                        replace kC := kC.ch c18 (by first | omega | exact hOo.ne (by omega))
                        replace hO := hO18
                        replace U := U.cc c18 (by intro b hb; have h9 := hOo.lim b hb.symm; first | exact .inr (by omega) | exact .inl (by omega) | omega)
                        refine l_step (y_assignV (et g0 rfl)) ?_
                        refine l_nil ?_
                        refine hQ11 _ _ _ (in_normal ?_)
                        refine hK10 _ _ ?_
                        refine fg4 0 3 22 23 (gS rfl (gS rfl (gS rfl (gS rfl (gS rfl (gS rfl (gS rfl (gS rfl (gS rfl (gS rfl (gS rfl (gS rfl (gS rfl (gS rfl (gS rfl (gS rfl (gS rfl (gS rfl (gS rfl (gS rfl (gS rfl g0))))))))))))))))))))) g0 (gS rfl (gS rfl (gS rfl (gS rfl (gS rfl (gS rfl (gS rfl (gS rfl (gS rfl (gS rfl (gS rfl (gS rfl (gS rfl (gS rfl (gS rfl (gS rfl (gS rfl (gS rfl (gS rfl g0))))))))))))))))))) (gS rfl (gS rfl (gS rfl (gS rfl (gS rfl (gS rfl (gS rfl (gS rfl (gS rfl (gS rfl (gS rfl (gS rfl (gS rfl (gS rfl (gS rfl (gS rfl (gS rfl (gS rfl g0)))))))))))))))))) (fun g => ?_)
                        refine c_region ?_
                        refine l_step (y_add (et g0 rfl) rfl (addIN (y := 1) ?_)) ?_
                        omega
                        refine l_step (y_moveV (et g0 rfl)) ?_
                        refine l_nil ?_
                        refine fK4 0 3 22 23 (gS rfl (gS rfl (gS rfl (gS rfl (gS rfl g0))))) (gS rfl (gS rfl (gS rfl (gS rfl g0)))) (gS rfl (gS rfl (gS rfl g0))) g0 (fun g => ?_)
                        exact hK6 (V.accts.length - ((i + 1))) _ _ (by omega) ⟨g, _, _, (i + 1), rfl, rfl, by omega, by rw [aks_yes hx1 hem]; exact hO, by rw [aks_yes hx1 hem]; intro h9; simp at h9, hHb, V6⟩))
                  · skip
                    
                    have hem : emA V.accts[i] = true := by simpa using cB2
                    refine c_skip ?_
                    refine hQ11 _ _ _ (in_normal ?_)
                    refine hK10 _ _ ?_
                    refine fg4 0 3 22 23 (gS rfl (gS rfl (gS rfl (gS rfl (gS rfl g0))))) (gS rfl (gS rfl (gS rfl (gS rfl g0)))) (gS rfl (gS rfl (gS rfl g0))) (gS rfl (gS rfl g0)) (fun g => ?_)
                    refine c_region ?_
                    refine l_step (y_add (et g0 rfl) rfl (addIN (y := 1) ?_)) ?_
                    omega
                    refine l_step (y_moveV (et g0 rfl)) ?_
                    refine l_nil ?_
                    refine fK4 0 3 22 23 (gS rfl (gS rfl (gS rfl (gS rfl (gS rfl g0))))) (gS rfl (gS rfl (gS rfl (gS rfl g0)))) (gS rfl (gS rfl (gS rfl g0))) g0 (fun g => ?_)
                    exact hK6 (V.accts.length - ((i + 1))) _ _ (by omega) ⟨g, _, _, (i + 1), rfl, rfl, by omega, by rw [aks_no hx1 hem]; exact hO.mono hsz9, by rw [aks_no hx1 hem]; exact hnl, hHb, V6⟩))
            · skip
              
              have hie : i = V.accts.length := by have := of_decide_eq_false cB1; omega
              subst hie
              obtain ⟨ta9, tc9, rfl⟩ := hO.sl
              refine c_exit ?_
              refine hQ5 _ _ _ (in_exit ?_)
              refine hK3 _ _ ?_
              refine fg2 0 3 (gS rfl (gS rfl (gS rfl (gS rfl g0)))) (gS rfl (gS rfl (gS rfl g0))) (fun g => ?_)
              refine c_seq (fun K19 hK19 => ?_)
              refine c_seq (fun K20 hK20 => ?_)
              exact (by
                refine c_region ?_
                refine l_step (y_moveV (et g0 rfl)) ?_
                refine l_step (y_len Hvaa.underlying165 (et g0 rfl)) ?_
                refine l_step (y_eql (et g0 rfl) rfl) ?_
                refine l_nil ?_
                refine hK20 _ _ ?_
                refine fg3 0 3 52 (gS rfl (gS rfl (gS rfl (gS rfl g0)))) (gS rfl (gS rfl (gS rfl g0))) g0 (fun g => ?_)
                refine c_cond (et g0 rfl) (fun cB3 => ?_) (fun cB3 => ?_)
                · skip
                  
                  have haz : aks V.accts V.accts.length = [] := List.length_eq_zero_iff.1 (by have := of_decide_eq_true cB3; omega)
                  refine c_seq (fun K22 hK22 => ?_)
                  exact (by
                    refine c_region ?_
                    refine l_step y_assignC ?_
                    refine l_nil ?_
                    refine hK22 _ _ ?_
                    refine fg1 2 g0 (fun g => ?_)
                    refine c_ret ?_
                    repeat with_reducible refine then_ret ?_
                    refine ret1 rfl (res_tmp (et g0 rfl)) ?_
                    exact ⟨_, [], G, LV.nil _ _ _, exp_nil haz⟩)
                · skip
                  
                  refine c_skip ?_
                  refine hK19 _ _ ?_
                  refine fg2 0 3 (gS rfl (gS rfl g0)) (gS rfl g0) (fun g => ?_)
                  refine c_seq (fun K23 hK23 => ?_)
                  exact (by
                    refine c_region ?_
                    refine l_step (y_moveV (et g0 rfl)) ?_
                    have hOo := hO
                    have hbd9 := ho.bd.accts
                    have hbd8 := aks_len (l := V.accts) V.accts.length
                    have hbW2 : base ≤ W6.heap.size := by have h9 := G.ch.size; first | omega | (have := hbW; omega)
                    refine l_eff (e_callV cal_75 (aC (et g0 rfl) aN) (v_sortedG hOo (by omega) hbW2 hnl)) (fun v24 w24 h24 => ?_)
                    obtain ⟨K9, hKp, hKs, hSR, c24⟩ := h24
                    replace G := G.chs c24 (by intro b hb; have h9 := hOo.lim b hb.symm; first | exact .inr (by omega) | exact .inl (by omega) | omega) (by intro q hq hh; have := hHb q hh; have := hOo.lim q hq.symm; omega)
                    replace hF := G.fz
                    replace kC := kC.ch c24 (by first | omega | exact hOo.ne (by omega))
                    replace U := U.cc c24 (by intro b hb; have h9 := hOo.lim b hb.symm; first | exact .inr (by omega) | exact .inl (by omega) | omega)
                    have hbw := hbwbase
                    obtain ⟨Hz25, Gz25, hlz25, lvz25, hnz25⟩ := hSR.keep' mono_sk G (Le.refl _) hbw
                    replace G := Gz25
                    replace hF := G.fz
                    replace hL0 := hL0.trans hlz25
                    have hKL := lvz25
                    obtain ⟨ka9, kc9, rfl, _⟩ := hKL.val
                    have mK : ∀ k ∈ K9, ∃ x, V.accts[k.pl]? = some x ∧ emA x = false ∧ k = ⟨0, x.addr, k.pl⟩ := fun k hk => ((aks_mem _).1 (hKp.mem_iff.1 hk)).2
                    have hKn : K9.length ≤ 2560 := by rw [hKp.length_eq]; omega
                    refine l_step (y_assignV (et g0 rfl)) ?_
                    refine l_nil ?_
                    refine hK23 _ _ ?_
                    refine fg2 0 3 (gS rfl (gS rfl (gS rfl (gS rfl g0)))) g0 (fun g => ?_)
                    refine c_seq (fun K26 hK26 => ?_)
                    exact (by
                      refine c_region ?_
                      refine l_step (y_moveV (et (gS rfl g0) rfl)) ?_
                      refine l_step (y_nil (et g0 rfl)) ?_
                      refine l_step (y_fld fld_84_0 (et g0 rfl)) ?_
                      refine l_step (y_load1 one_76 (et g0 rfl) (at1 (kC.cell h35))) ?_
                      refine l_step (y_len Hvaa.underlying76 (et g0 rfl)) ?_
                      refine l_eff (e_make Hvaa.underlying82 sz_21 zr_21 by_21 (et g0 rfl) (et g0 rfl) (by omega) (by omega)) (fun v27 w27 h27 => ?_)
                      obtain ⟨b27, rfl, n27⟩ := h27
                      have f27 : w.heap.size ≤ b27 := Nat.le_trans U.size n27.fresh
                      have nb27 := hF.nb n27.fresh
                      replace G := G.tr (Go.ofUp hF n27.up)
                      replace hF := hF.up n27.up
                      replace kC := kC.up n27.up
                      replace U := U.tr n27.up
                      have k27 := n27.blk
                      obtain ⟨D5, hD5, kD5⟩ := RK.made k27
                      replace k27 := kD5
                      refine l_step (y_assignV (et g0 rfl)) ?_
                      refine l_nil ?_
                      refine hK26 _ _ ?_
                      refine fg3 0 3 5 (gS rfl (gS rfl (gS rfl (gS rfl (gS rfl (gS rfl (gS rfl (gS rfl g0)))))))) (gS rfl (gS rfl (gS rfl (gS rfl (gS rfl (gS rfl (gS rfl g0))))))) g0 (fun g => ?_)
                      refine c_seq (fun K28 hK28 => ?_)
                      exact (by
                        refine c_region ?_
                        refine l_step (y_moveV (et (gS rfl g0) rfl)) ?_
                        refine l_step (y_len Hvaa.underlying165 (et g0 rfl)) ?_
                        refine l_eff (e_make Hvaa.underlying23 sz_113 zr_113 by_113 (et g0 rfl) (et g0 rfl) (by omega) (by omega)) (fun v29 w29 h29 => ?_)
                        obtain ⟨b29, rfl, n29⟩ := h29
                        have d27_29 : b27 < b29 := Nat.lt_of_lt_of_le k27.lt n29.fresh
                        have f29 : w.heap.size ≤ b29 := Nat.le_trans U.size n29.fresh
                        have nb29 := hF.nb n29.fresh
                        replace G := G.tr (Go.ofUp hF n29.up)
                        replace hF := hF.up n29.up
                        replace k27 := k27.up n29.up
                        replace kC := kC.up n29.up
                        replace U := U.tr n29.up
                        have k29 := n29.blk
                        obtain ⟨D6, hD6, kD6⟩ := RA.oacct (H := Hz25) k29
                        replace k29 := kD6
                        refine l_step (y_assignV (et g0 rfl)) ?_
                        refine l_nil ?_
                        refine hK28 _ _ ?_
                        refine fg4 0 3 5 6 (gS rfl (gS rfl (gS rfl (gS rfl (gS rfl (gS rfl g0)))))) (gS rfl (gS rfl (gS rfl (gS rfl (gS rfl g0))))) (gS rfl (gS rfl (gS rfl (gS rfl g0)))) g0 (fun g => ?_)
                        refine c_seq (fun K30 hK30 => ?_)
                        refine c_seq (fun K31 hK31 => ?_)
                        exact (by
                          refine c_region ?_
                          refine l_step (y_moveV (et (gS rfl (gS rfl g0)) rfl)) ?_
                          refine l_step (y_len Hvaa.underlying165 (et g0 rfl)) ?_
                          refine l_step y_moveC ?_
                          refine l_nil ?_
                          refine hK31 _ _ ?_
                          refine fg6 0 5 6 64 65 66 (gS rfl (gS rfl (gS rfl (gS rfl (gS rfl (gS rfl g0)))))) (gS rfl (gS rfl (gS rfl (gS rfl g0)))) (gS rfl (gS rfl (gS rfl g0))) (gS rfl (gS rfl g0)) (gS rfl g0) g0 (fun g => ?_)
                          refine c_block (fun Q32 hQ32 => ?_)
                          refine fg6 0 5 6 64 65 66 (gS rfl (gS rfl (gS rfl (gS rfl (gS rfl g0))))) (gS rfl (gS rfl (gS rfl (gS rfl g0)))) (gS rfl (gS rfl (gS rfl g0))) (gS rfl (gS rfl g0)) (gS rfl g0) g0 (fun g => ?_)
                          refine c_loop (fun k_ s_ W33 => ∃ (g : Nat → Value) (Hk33 : Store) (C5 C6 : Array Value) (r : Nat), s_ = (upd (upd (upd (upd (upd (upd g 0 (.pointer (some ⟨bc, 2435, none⟩))) 5 (.slice (some ⟨b27, 0, none⟩) V.accts.length V.accts.length)) 6 (.slice (some ⟨b29, 0, none⟩) K9.length K9.length)) 64 (.slice ka9 K9.length kc9)) 65 (.int .i64 (K9.length : Nat))) 66 (.int .i64 (r : Nat))) ∧ K9.length - r = k_ ∧ (r ≤ K9.length) ∧ (RK C5 V.accts.length (rkF K9 r)) ∧ (RA P_oacct 55 Hk33 C6 (wL1 V.accts K9 r)) ∧ Blk W33 b27 (C5) ∧ Blk W33 b29 (C6) ∧ Go (fun k => k = b27 ∨ k = b29) w29 Hz25 W33 Hk33) (K9.length - (0)) ?_ ?_
                          · exact ⟨g, _, _, _, 0, rfl, rfl, Nat.zero_le _, hD5, by rw [wL1_zero]; exact hD6, k27, k29, Go.refl hF⟩
                          · skip
                            intro k_ s_ W33 hI K33 hK33
                            obtain ⟨g, Hk33, C5, C6, r, rfl, rfl, hr9, h5, h6, nk27, nk29, V33⟩ := hI
                            have hle33 := V33.le
                            replace nb27 := V33.nb nb27 k27.lt
                            replace nb29 := V33.nb nb29 k29.lt
                            replace lvz25 := lvz25.mono hle33
                            replace hKL := hKL.mono hle33
                            replace hL0 := hL0.trans hle33
                            replace G := G.trans V33 (by intro b hb; first | exact hb.elim | omega | (simp at hb ⊢; omega))
                            replace hF := V33.fz
                            replace kC := kC.ch V33.ch (by first | omega | exact hOo.ne (by omega))
                            replace k27 := nk27
                            replace k29 := nk29
                            replace U := U.cc V33.ch (by intro b hb; first | exact hb.elim | omega | (simp at hb ⊢; omega))
                            refine c_seq (fun K34 hK34 => ?_)
                            exact (by
                              refine c_region ?_
                              refine l_step (y_lss (et g0 rfl) (et (gS rfl g0) rfl)) ?_
                              refine l_nil ?_
                              refine hK34 _ _ ?_
                              refine c_seq (fun K35 hK35 => ?_)
                              refine c_cond (et g0 rfl) (fun cB4 => ?_) (fun cB4 => ?_)
                              · skip
                                
                                have hrl9 : r < K9.length := by have := of_decide_eq_true cB4; omega
                                refine c_skip ?_
                                refine hK35 _ _ ?_
                                refine fg6 0 5 6 64 65 66 (gS rfl (gS rfl (gS rfl (gS rfl (gS rfl (gS rfl g0)))))) (gS rfl (gS rfl (gS rfl (gS rfl (gS rfl g0))))) (gS rfl (gS rfl (gS rfl (gS rfl g0)))) (gS rfl (gS rfl (gS rfl g0))) (gS rfl (gS rfl g0)) (gS rfl g0) (fun g => ?_)
                                refine c_seq (fun K37 hK37 => ?_)
                                refine c_block (fun Q38 hQ38 => ?_)
                                refine c_seq (fun K39 hK39 => ?_)
                                exact (by
                                  refine c_region ?_
                                  refine l_step (y_moveV (et g0 rfl)) ?_
                                  obtain ⟨bk, ok, Ck, rk, hka, hBk, hRk, hkl, hke, hkok⟩ := hKL.rowH (i := r) hrl9
                                  rw [hke] at hRk hkl
                                  have hkrow := hBk.row hF hRk
                                  obtain ⟨x9, hx9, hem9, hke9⟩ := mK _ (List.getElem_mem hrl9)
                                  have hpl : K9[r].pl < V.accts.length := (List.getElem?_eq_some_iff.1 hx9).1
                                  have hxe : V.accts[K9[r].pl] = x9 := (List.getElem?_eq_some_iff.1 hx9).2
                                  obtain ⟨bq, oq, Cq, rq, ha4, hBq, hRq, hrl4, vc4, hr4, hbv4, hok4⟩ := (hA.mono hL0).rowH (i := K9[r].pl) hpl
                                  rw [hxe] at hr4 hbv4 hok4
                                  rw [hr4] at hRq hrl4
                                  obtain ⟨cda, cdc, rfl, hcl9⟩ := hbv4.sv.val
                                  have hcd9 := hok4.code
                                  refine l_step (y_idxSa hka Hvaa.underlying165 sz_170 (et (gS rfl (gS rfl (gS rfl g0))) rfl) (et (gS rfl g0) rfl) ?_) ?_
                                  omega
                                  refine l_step (y_loadR agg_170 sz_170 (et g0 rfl) hkl (at1R hkrow)) ?_
                                  refine l_eff (e_alloc zr_170) (fun v40 w40 h40 => ?_)
                                  obtain ⟨b40, rfl, n40⟩ := h40
                                  have d27_40 : b27 < b40 := Nat.lt_of_lt_of_le k27.lt n40.fresh
                                  have d29_40 : b29 < b40 := Nat.lt_of_lt_of_le k29.lt n40.fresh
                                  have f40 : w.heap.size ≤ b40 := Nat.le_trans U.size n40.fresh
                                  have nb40 := hF.nb n40.fresh
                                  have fV33_40 := Nat.le_trans V33.ch.size n40.fresh
                                  replace G := G.tr (Go.ofUp hF n40.up)
                                  replace V33 := V33.tr (Go.ofUp hF n40.up)
                                  replace hF := hF.up n40.up
                                  replace k27 := k27.up n40.up
                                  replace k29 := k29.up n40.up
                                  replace kC := kC.up n40.up
                                  replace U := U.tr n40.up
                                  have k40 := n40.blk
                                  exact (by
                                    refine l_step (y_assignV (et (gS rfl (gS rfl (gS rfl g0))) rfl)) ?_
                                    refine l_effN (e_store sz_170 (et (gS rfl g0) rfl) (cellsV (et (gS rfl (gS rfl g0)) rfl) rfl) (skC_len _) (by exact skC_one _) k40 (by exact Nat.le_of_ble_eq_true rfl)) (fun v41 w41 h41 => ?_)
                                    obtain ⟨rfl, x41⟩ := h41
                                    replace k27 := k27.ch x41.ch (by omega)
                                    replace k29 := k29.ch x41.ch (by omega)
                                    replace kC := kC.ch x41.ch (by first | omega | (first | omega | exact hOo.ne (by omega)))
                                    replace k40 := x41.blk.full rfl
                                    replace G := G.wr x41 (by first | exact .inr f40 | exact .inl rfl | omega | (simp; omega)) nb40
                                    replace V33 := V33.wr x41 (by first | exact .inr f40 | exact .inl rfl | omega | (simp; omega)) nb40
                                    replace hF := G.fz
                                    replace U := U.st x41 f40
                                    refine l_nil ?_
                                    refine hK39 _ _ ?_
                                    refine fg8 0 5 6 64 65 66 8 7 (gS rfl (gS rfl (gS rfl (gS rfl (gS rfl (gS rfl (gS rfl (gS rfl (gS rfl (gS rfl g0)))))))))) (gS rfl (gS rfl (gS rfl (gS rfl (gS rfl (gS rfl (gS rfl (gS rfl (gS rfl g0))))))))) (gS rfl (gS rfl (gS rfl (gS rfl (gS rfl (gS rfl (gS rfl (gS rfl g0)))))))) (gS rfl (gS rfl (gS rfl (gS rfl (gS rfl (gS rfl (gS rfl g0))))))) (gS rfl (gS rfl (gS rfl (gS rfl (gS rfl (gS rfl g0)))))) (gS rfl (gS rfl (gS rfl (gS rfl (gS rfl g0))))) (gS rfl g0) g0 (fun g => ?_)
                                    refine c_seq (fun K42 hK42 => ?_)
                                    exact (by
                                      refine c_draw Up 8 [(0, true), (1, true), (2, true), (3, true), (4, true), (5, true), (6, true), (7, true)] (by kernel_rfl) (fun w43 hu => ⟨Up.refl _, ?_⟩)
                                      replace G := G.tr (Go.ofUp hF hu)
                                      replace V33 := V33.tr (Go.ofUp hF hu)
                                      replace hF := hF.up hu
                                      replace k27 := k27.up hu
                                      replace k29 := k29.up hu
                                      replace k40 := k40.up hu
                                      replace kC := kC.up hu
                                      replace U := U.tr hu
                                      have SU := Up.refl w43
                                      refine p_step (by exact rfl) (y_moveV (et (gS rfl (gS rfl (gS rfl (gS rfl (gS rfl (gS rfl (gS rfl g0))))))) rfl)) ?_
                                      refine p_step (by exact rfl) (y_nil (et g0 rfl)) ?_
                                      refine p_step (by exact rfl) (y_fld fld_84_0 (et g0 rfl)) ?_
                                      refine p_step (by exact rfl) (y_load1 one_76 (et g0 rfl) (atS (kC.cell h35))) ?_
                                      refine p_step (by exact rfl) (y_fld fld_170_2 (et (gS rfl (gS rfl (gS rfl (gS rfl (gS rfl g0))))) rfl)) ?_
                                      refine p_step (by exact rfl) (y_load1 one_21 (et g0 rfl) (atS (k40.cell (show _ = some (Value.int .i32 (K9[r].pl : Nat)) from rfl)))) ?_
                                      refine p_step (by exact rfl) (y_idxSa ha4 Hvaa.underlying76 sz_167 (et (gS rfl (gS rfl g0)) rfl) (et g0 rfl) ?_) ?_
                                      omega
                                      refine p_step (by exact rfl) (y_assignV (et g0 rfl)) ?_
                                      refine p_nil ?_
                                      refine hK42 _ _ ?_
                                      refine fg9 0 5 6 64 65 66 8 7 9 (gS rfl (gS rfl (gS rfl (gS rfl (gS rfl (gS rfl (gS rfl (gS rfl (gS rfl (gS rfl (gS rfl (gS rfl (gS rfl (gS rfl (gS rfl g0))))))))))))))) (gS rfl (gS rfl (gS rfl (gS rfl (gS rfl (gS rfl (gS rfl (gS rfl (gS rfl (gS rfl (gS rfl (gS rfl (gS rfl (gS rfl g0)))))))))))))) (gS rfl (gS rfl (gS rfl (gS rfl (gS rfl (gS rfl (gS rfl (gS rfl (gS rfl (gS rfl (gS rfl (gS rfl (gS rfl g0))))))))))))) (gS rfl (gS rfl (gS rfl (gS rfl (gS rfl (gS rfl (gS rfl (gS rfl (gS rfl (gS rfl (gS rfl (gS rfl g0)))))))))))) (gS rfl (gS rfl (gS rfl (gS rfl (gS rfl (gS rfl (gS rfl (gS rfl (gS rfl (gS rfl (gS rfl g0))))))))))) (gS rfl (gS rfl (gS rfl (gS rfl (gS rfl (gS rfl (gS rfl (gS rfl (gS rfl (gS rfl g0)))))))))) (gS rfl (gS rfl (gS rfl (gS rfl (gS rfl (gS rfl (gS rfl (gS rfl (gS rfl g0))))))))) (gS rfl (gS rfl (gS rfl (gS rfl (gS rfl (gS rfl (gS rfl (gS rfl g0)))))))) g0 (fun g => ?_)
                                      refine c_seq (fun K44 hK44 => ?_)
                                      exact (by
                                        refine c_region ?_
                                        refine l_step (y_moveV (et (gS rfl (gS rfl (gS rfl (gS rfl (gS rfl (gS rfl (gS rfl g0))))))) rfl)) ?_
                                        refine l_step (y_fld fld_170_2 (et (gS rfl (gS rfl (gS rfl g0))) rfl)) ?_
                                        refine l_step (y_load1 one_21 (et g0 rfl) (at1 (k40.cell (show _ = some (Value.int .i32 (K9[r].pl : Nat)) from rfl)))) ?_
                                        refine l_step (y_moveV (et (gS rfl (gS rfl (gS rfl (gS rfl g0)))) rfl)) ?_
                                        refine l_step (y_conv Hvaa.underlying3 Hvaa.underlying21 (et g0 rfl) (wrap_i32 ?_ ?_)) ?_
                                        omega
                                        omega
                                        refine l_step (y_add (et g0 rfl) rfl (inc32 ?_)) ?_
                                        omega
                                        refine l_step (y_idxS Hvaa.underlying82 sz_21 (et (gS rfl (gS rfl (gS rfl (gS rfl (gS rfl g0))))) rfl) (et (gS rfl (gS rfl (gS rfl g0))) rfl) ?_ ?_) ?_
                                        omega
                                        omega
                                        refine l_effN (e_store sz_21 (et g0 rfl) (cellsV (et (gS rfl g0) rfl) rfl) rfl (by first | exact one_bL _ | exact one_uL _ | (intro v hv; simp at hv; subst hv; rfl)) k27 (by (rw [h5.size]; simp only [Int.toNat_natCast, Nat.zero_add, Nat.mul_one, List.length_cons, List.length_nil]; omega))) (fun v45 w45 h45 => ?_)
                                        obtain ⟨rfl, x45⟩ := h45
                                        replace k29 := k29.ch x45.ch (by omega)
                                        replace k40 := k40.ch x45.ch (by omega)
                                        replace kC := kC.ch x45.ch (by first | omega | (first | omega | exact hOo.ne (by omega)))
                                        replace k27 := x45.blk
                                        replace G := G.wr x45 (by first | exact .inr f27 | exact .inl rfl | omega | (simp; omega)) nb27
                                        replace V33 := V33.wr x45 (by first | exact .inr f27 | exact .inl rfl | omega | (simp; omega)) nb27
                                        replace hF := G.fz
                                        replace U := U.st x45 f27
                                        have h5n := h5.put (q := K9[r].pl) (f' := rkF K9 (r + 1)) hpl (show 0 + ((K9[r].pl : Nat) : Int).toNat * 1 = K9[r].pl by simp) (fun i => by rw [rkF_s (List.getElem?_eq_getElem hrl9), rkF_s (List.getElem?_eq_getElem hrl9), if_pos rfl])
                                        rw [rkF_s (List.getElem?_eq_getElem hrl9), if_pos rfl] at h5n
                                        refine l_nil ?_
                                        refine hK44 _ _ ?_
                                        refine fg8 0 5 6 64 65 66 7 9 (gS rfl (gS rfl (gS rfl (gS rfl (gS rfl (gS rfl (gS rfl (gS rfl (gS rfl (gS rfl (gS rfl (gS rfl (gS rfl (gS rfl (gS rfl g0))))))))))))))) (gS rfl (gS rfl (gS rfl (gS rfl (gS rfl (gS rfl (gS rfl (gS rfl (gS rfl (gS rfl (gS rfl (gS rfl (gS rfl (gS rfl g0)))))))))))))) (gS rfl (gS rfl (gS rfl (gS rfl (gS rfl (gS rfl (gS rfl (gS rfl (gS rfl (gS rfl (gS rfl (gS rfl (gS rfl g0))))))))))))) (gS rfl (gS rfl (gS rfl (gS rfl (gS rfl (gS rfl (gS rfl (gS rfl (gS rfl (gS rfl (gS rfl (gS rfl g0)))))))))))) (gS rfl (gS rfl (gS rfl (gS rfl (gS rfl (gS rfl (gS rfl (gS rfl (gS rfl (gS rfl (gS rfl g0))))))))))) (gS rfl (gS rfl (gS rfl (gS rfl (gS rfl (gS rfl (gS rfl (gS rfl (gS rfl (gS rfl g0)))))))))) (gS rfl (gS rfl (gS rfl (gS rfl (gS rfl (gS rfl (gS rfl (gS rfl g0)))))))) (gS rfl (gS rfl (gS rfl (gS rfl (gS rfl (gS rfl (gS rfl g0))))))) (fun g => ?_)
                                        refine c_draw Up 22 [(0, true), (1, true), (2, true), (3, true), (4, true), (5, true), (6, true), (7, true), (8, true), (9, true), (10, true), (11, true), (12, true), (13, true), (15, true), (16, true), (17, true), (18, true), (14, false), (19, false), (20, true), (21, true), (22, false)] (by kernel_rfl) (fun w46 hu => ⟨Up.refl _, ?_⟩)
                                        replace G := G.tr (Go.ofUp hF hu)
                                        replace V33 := V33.tr (Go.ofUp hF hu)
                                        replace hF := hF.up hu
                                        replace k27 := k27.up hu
                                        replace k29 := k29.up hu
                                        replace k40 := k40.up hu
                                        replace kC := kC.up hu
                                        replace U := U.tr hu
                                        have SU := Up.refl w46
                                        exact (by
                                          refine p_step (by exact rfl) (y_moveV (et (gS rfl (gS rfl (gS rfl (gS rfl (gS rfl g0))))) rfl)) ?_
                                          refine p_step (by exact rfl) (y_moveV (et (gS rfl (gS rfl g0)) rfl)) ?_
                                          refine p_step (by exact rfl) (y_moveV (et (gS rfl (gS rfl g0)) rfl)) ?_
                                          refine p_step (by exact rfl) (y_nil (et g0 rfl)) ?_
                                          refine p_step (by exact rfl) (y_fld fld_167_0 (et g0 rfl)) ?_
                                          refine p_step (by exact rfl) (y_loadR agg_25 sz_25 (et g0 rfl) (by rw [length_bL, length_be]) (atSR (eaC_adr (hBq.row hF hRq) (by omega)))) ?_
                                          refine p_step (by exact rfl) (y_moveV (et (gS rfl (gS rfl (gS rfl (gS rfl (gS rfl (gS rfl g0)))))) rfl)) ?_
                                          refine p_step (by exact rfl) (y_nil (et g0 rfl)) ?_
                                          refine p_step (by exact rfl) (y_fld fld_167_1 (et g0 rfl)) ?_
                                          refine p_step (by exact rfl) (y_load1 one_26 (et g0 rfl) (atS ((hBq.row hF hRq).c1 eaC_non (by omega)))) ?_
                                          refine p_step (by exact rfl) (y_moveV (et (gS rfl (gS rfl (gS rfl (gS rfl (gS rfl (gS rfl (gS rfl (gS rfl (gS rfl (gS rfl g0)))))))))) rfl)) ?_
                                          refine p_step (by exact rfl) (y_nil (et g0 rfl)) ?_
                                          refine p_step (by exact rfl) (y_fld fld_167_2 (et g0 rfl)) ?_
                                          refine p_step (by exact rfl) (y_loadR agg_65 sz_65 (et g0 rfl) rfl (atSR (eaC_row (hBq.row hF hRq) (by omega)))) ?_
                                          refine p_step (by exact rfl) (y_moveV (et (gS rfl (gS rfl (gS rfl (gS rfl (gS rfl (gS rfl (gS rfl (gS rfl (gS rfl (gS rfl (gS rfl (gS rfl (gS rfl (gS rfl g0)))))))))))))) rfl)) ?_
                                          refine p_step (by exact rfl) (y_nil (et g0 rfl)) ?_
                                          refine p_step (by exact rfl) (y_fld fld_167_3 (et g0 rfl)) ?_
                                          refine p_step (by exact rfl) (y_load1 one_38 (et g0 rfl) (atS ((hBq.row hF hRq).c1 eaC_cod (by omega)))) ?_
                                          refine p_eff (by exact rfl) (e_callV cal_76 (aC (et (gS rfl (gS rfl (gS rfl (gS rfl g0)))) rfl) aN) (wBE32_spec _ _)) (fun v47 w47 h47 => ?_)
                                          obtain ⟨rfl, u47⟩ := h47
                                          replace G := G.tr (Go.ofUp hF u47)
                                          replace V33 := V33.tr (Go.ofUp hF u47)
                                          replace hF := hF.up u47
                                          replace k27 := k27.up u47
                                          replace k29 := k29.up u47
                                          replace k40 := k40.up u47
                                          replace kC := kC.up u47
                                          replace U := U.tr u47
                                          refine ⟨.inr (SU.tr u47), ?_⟩
                                          replace SU := SU.tr u47
                                          refine p_eff (by exact rfl) (e_callV cal_77 (aC (et (gS rfl g0) rfl) aN) (vault_copied _ _ _ _ _ _ hF (hbv4.wv hF) (Nat.le_refl _) (by omega))) (fun v48 w48 h48 => ?_)
                                          obtain ⟨H48, g48, b948⟩ := h48
                                          have hlew48 := g48.le
                                          replace nb27 := g48.nb nb27 k27.lt
                                          replace nb29 := g48.nb nb29 k29.lt
                                          replace nb40 := g48.nb nb40 k40.lt
                                          replace lvz25 := lvz25.mono hlew48
                                          replace hKL := hKL.mono hlew48
                                          replace h6 := h6.mono hlew48
                                          replace hL0 := hL0.trans hlew48
                                          replace k27 := k27.up g48.up
                                          replace k29 := k29.up g48.up
                                          replace k40 := k40.up g48.up
                                          replace kC := kC.up g48.up
                                          replace U := U.tr g48.up
                                          replace G := G.tr g48
                                          replace V33 := V33.tr g48
                                          replace hF := g48.fz
                                          obtain ⟨za, zc, rfl, hzl⟩ := b948.sv.val
                                          refine ⟨.inr (SU.tr g48.up), ?_⟩
                                          replace SU := SU.tr g48.up
                                          exact (by
                                            refine p_step (by exact rfl) (y_bld (bC (et (gS rfl (gS rfl (gS rfl (gS rfl (gS rfl (gS rfl (gS rfl (gS rfl (gS rfl (gS rfl (gS rfl (gS rfl (gS rfl (gS rfl g0)))))))))))))) rfl) (bC (et (gS rfl (gS rfl (gS rfl (gS rfl (gS rfl (gS rfl (gS rfl (gS rfl (gS rfl (gS rfl g0)))))))))) rfl) (bC (et (gS rfl g0) rfl) (bC (et g0 rfl) bN)))) (bld_oa (A := ⟨x9.addr, x9.nonce, x9.bal, x9.code, []⟩) rfl)) ?_
                                            refine p_step (by exact rfl) (y_idxS Hvaa.underlying23 sz_113 (et (gS rfl (gS rfl (gS rfl (gS rfl (gS rfl (gS rfl (gS rfl (gS rfl (gS rfl (gS rfl (gS rfl (gS rfl (gS rfl (gS rfl (gS rfl (gS rfl (gS rfl (gS rfl (gS rfl (gS rfl g0)))))))))))))))))))) rfl) (et (gS rfl (gS rfl (gS rfl (gS rfl (gS rfl (gS rfl (gS rfl (gS rfl (gS rfl (gS rfl (gS rfl (gS rfl (gS rfl (gS rfl (gS rfl (gS rfl (gS rfl (gS rfl (gS rfl g0))))))))))))))))))) rfl) ?_ ?_) ?_
                                            omega
                                            omega
                                            refine p_effN (by exact rfl) (e_store sz_113 (et g0 rfl) (cellsV (et (gS rfl g0) rfl) rfl) oaC_len (by exact oaC_one rfl rfl) k29 (by (rw [h6.size, wL1_len (by omega)]; (try rw [oaC_len]); simp only [Int.toNat_natCast, Nat.zero_add]; exact mul_in hrl9))) (fun v49 w49 h49 => ?_)
                                            obtain ⟨rfl, x49⟩ := h49
                                            replace k27 := k27.ch x49.ch (by omega)
                                            replace k40 := k40.ch x49.ch (by omega)
                                            replace kC := kC.ch x49.ch (by first | omega | (first | omega | exact hOo.ne (by omega)))
                                            replace k29 := x49.blk
                                            replace G := G.wr x49 (by first | exact .inr f29 | exact .inl rfl | omega | (simp; omega)) nb29
                                            replace V33 := V33.wr x49 (by first | exact .inr f29 | exact .inl rfl | omega | (simp; omega)) nb29
                                            replace hF := G.fz
                                            replace U := U.st x49 f29
                                            refine ⟨.inl rfl, ?_⟩
                                            rw [Int.toNat_natCast] at k29
                                            have hbc := b948
                                            refine p_nil ?_
                                            refine hQ38 _ _ _ (in_normal ?_)
                                            refine hK37 _ _ ?_
                                            refine fg6 0 5 6 64 65 66 (gS rfl (gS rfl (gS rfl (gS rfl (gS rfl (gS rfl (gS rfl (gS rfl (gS rfl (gS rfl (gS rfl (gS rfl (gS rfl (gS rfl (gS rfl (gS rfl (gS rfl (gS rfl (gS rfl (gS rfl (gS rfl (gS rfl (gS rfl (gS rfl (gS rfl (gS rfl (gS rfl (gS rfl (gS rfl g0))))))))))))))))))))))))))))) (gS rfl (gS rfl (gS rfl (gS rfl (gS rfl (gS rfl (gS rfl (gS rfl (gS rfl (gS rfl (gS rfl (gS rfl (gS rfl (gS rfl (gS rfl (gS rfl (gS rfl (gS rfl (gS rfl (gS rfl (gS rfl (gS rfl (gS rfl (gS rfl (gS rfl (gS rfl (gS rfl (gS rfl g0)))))))))))))))))))))))))))) (gS rfl (gS rfl (gS rfl (gS rfl (gS rfl (gS rfl (gS rfl (gS rfl (gS rfl (gS rfl (gS rfl (gS rfl (gS rfl (gS rfl (gS rfl (gS rfl (gS rfl (gS rfl (gS rfl (gS rfl (gS rfl (gS rfl (gS rfl (gS rfl (gS rfl (gS rfl (gS rfl g0))))))))))))))))))))))))))) (gS rfl (gS rfl (gS rfl (gS rfl (gS rfl (gS rfl (gS rfl (gS rfl (gS rfl (gS rfl (gS rfl (gS rfl (gS rfl (gS rfl (gS rfl (gS rfl (gS rfl (gS rfl (gS rfl (gS rfl (gS rfl (gS rfl (gS rfl (gS rfl (gS rfl (gS rfl g0)))))))))))))))))))))))))) (gS rfl (gS rfl (gS rfl (gS rfl (gS rfl (gS rfl (gS rfl (gS rfl (gS rfl (gS rfl (gS rfl (gS rfl (gS rfl (gS rfl (gS rfl (gS rfl (gS rfl (gS rfl (gS rfl (gS rfl (gS rfl (gS rfl (gS rfl (gS rfl (gS rfl g0))))))))))))))))))))))))) (gS rfl (gS rfl (gS rfl (gS rfl (gS rfl (gS rfl (gS rfl (gS rfl (gS rfl (gS rfl (gS rfl (gS rfl (gS rfl (gS rfl (gS rfl (gS rfl (gS rfl (gS rfl (gS rfl (gS rfl (gS rfl (gS rfl (gS rfl (gS rfl g0)))))))))))))))))))))))) (fun g => ?_)
                                            refine c_region ?_
                                            refine l_step (y_add (et g0 rfl) rfl (addIN (y := 1) ?_)) ?_
                                            omega
                                            refine l_step (y_moveV (et g0 rfl)) ?_
                                            refine l_nil ?_
                                            refine fK6 0 5 6 64 65 66 (gS rfl (gS rfl (gS rfl (gS rfl (gS rfl (gS rfl (gS rfl g0))))))) (gS rfl (gS rfl (gS rfl (gS rfl (gS rfl (gS rfl g0)))))) (gS rfl (gS rfl (gS rfl (gS rfl (gS rfl g0))))) (gS rfl (gS rfl (gS rfl (gS rfl g0)))) (gS rfl (gS rfl (gS rfl g0))) g0 (fun g => ?_)
                                            exact hK33 (K9.length - ((r + 1))) _ _ (by omega) ⟨g, _, _, _, (r + 1), rfl, rfl, by omega, h5n, by rw [← wL1_set hrl9, mkA_eq hx9]; exact h6.put (by rw [wL1_len (by omega)]; exact hrl9) oaC_len ⟨_, _, rfl, hok4.addr, hbc, LV.nil _ _ _, hok4.nonce, hok4.bal⟩, k27, k29, V33⟩))))))
                              · skip
                                
                                have hre : r = K9.length := by have := of_decide_eq_false cB4; omega
                                subst hre
                                refine c_exit ?_
                                refine hQ32 _ _ _ (in_exit ?_)
                                refine hK30 _ _ ?_
                                refine fg3 0 5 6 (gS rfl (gS rfl (gS rfl (gS rfl (gS rfl (gS rfl g0)))))) (gS rfl (gS rfl (gS rfl (gS rfl (gS rfl g0))))) (gS rfl (gS rfl (gS rfl (gS rfl g0)))) (fun g => ?_)
                                refine c_seq (fun K50 hK50 => ?_)
                                exact (by
                                  refine c_region ?_
                                  refine l_step y_assignC ?_
                                  refine l_nil ?_
                                  refine hK50 _ _ ?_
                                  refine c_seq (fun K51 hK51 => ?_)
                                  refine c_seq (fun K52 hK52 => ?_)
                                  exact (by
                                    refine c_region ?_
                                    refine l_step (y_moveV (et (gS rfl (gS rfl (gS rfl g0))) rfl)) ?_
                                    refine l_step (y_nil (et g0 rfl)) ?_
                                    refine l_step (y_fld fld_84_1 (et g0 rfl)) ?_
                                    refine l_step (y_load1 one_77 (et g0 rfl) (at1 (kC.cell h36))) ?_
                                    refine l_step (y_len Hvaa.underlying77 (et g0 rfl)) ?_
                                    refine l_step y_moveC ?_
                                    refine l_nil ?_
                                    refine hK52 _ _ ?_
                                    refine fg6 0 5 6 10 112 113 (gS rfl (gS rfl (gS rfl (gS rfl (gS rfl (gS rfl (gS rfl (gS rfl (gS rfl g0))))))))) (gS rfl (gS rfl (gS rfl (gS rfl (gS rfl (gS rfl (gS rfl (gS rfl g0)))))))) (gS rfl (gS rfl (gS rfl (gS rfl (gS rfl (gS rfl (gS rfl g0))))))) (gS rfl (gS rfl (gS rfl (gS rfl (gS rfl (gS rfl g0)))))) (gS rfl g0) g0 (fun g => ?_)
                                    refine c_block (fun Q53 hQ53 => ?_)
                                    refine fg6 0 5 6 10 112 113 (gS rfl (gS rfl (gS rfl (gS rfl (gS rfl g0))))) (gS rfl (gS rfl (gS rfl (gS rfl g0)))) (gS rfl (gS rfl (gS rfl g0))) (gS rfl (gS rfl g0)) (gS rfl g0) g0 (fun g => ?_)
                                    obtain ⟨bas3, hbas3⟩ : ∃ bas3, bas3 = W33.heap.size := ⟨_, rfl⟩
                                    have hbwbas3 : w.heap.size ≤ bas3 := by rw [hbas3]; exact U.size
                                    have hHbas3 : ∀ q, Store.has _ q → q < bas3 := fun q hq => by rw [hbas3]; exact hF.lt hq
                                    have hl5 : b27 < bas3 := by rw [hbas3]; exact k27.lt
                                    have hl6 : b29 < bas3 := by rw [hbas3]; exact k29.lt
                                    refine c_loop (fun k_ s_ W54 => ∃ (g : Nat → Value) (Hk54 : Store) (vt : Value) (j : Nat), s_ = (upd (upd (upd (upd (upd (upd g 0 (.pointer (some ⟨bc, 2435, none⟩))) 5 (.slice (some ⟨b27, 0, none⟩) V.accts.length V.accts.length)) 6 (.slice (some ⟨b29, 0, none⟩) K9.length K9.length)) 10 vt) 112 (.int .i64 (V.slots.length : Nat))) 113 (.int .i64 (j : Nat))) ∧ V.slots.length - j = k_ ∧ (j ≤ V.slots.length) ∧ (GL P_sk H bas3 170 6 W54.heap.size W54 vt (sks (rkF K9 K9.length) V.slots j)) ∧ (sks (rkF K9 K9.length) V.slots j = [] → vt = .slice none 0 0) ∧ (∀ q, Hk54.has q → q < bas3) ∧ Go (fun k => bas3 ≤ k) W33 Hk33 W54 Hk54) (V.slots.length - (0)) ?_ ?_
                                    · exact ⟨g, _, (.slice none 0 0), 0, rfl, rfl, Nat.zero_le _, GL.nil, fun _ => rfl, hHbas3, Go.refl hF⟩
                                    · skip
                                      intro k_ s_ W54 hI K54 hK54
                                      obtain ⟨g, Hk54, vt, j, rfl, rfl, hj9, hO, hnl, hHb, V54⟩ := hI
                                      have hle54 := V54.le
                                      replace nb27 := V54.nb nb27 k27.lt
                                      replace nb29 := V54.nb nb29 k29.lt
                                      replace lvz25 := lvz25.mono hle54
                                      replace hKL := hKL.mono hle54
                                      replace h6 := h6.mono hle54
                                      replace hL0 := hL0.trans hle54
                                      replace G := G.trans V54 (by intro b hb; first | exact hb.elim | omega | (simp at hb ⊢; omega))
                                      replace hF := V54.fz
                                      replace k27 := k27.ch V54.ch (by omega)
                                      replace k29 := k29.ch V54.ch (by omega)
                                      replace kC := kC.ch V54.ch (by first | omega | exact hOo.ne (by omega))
                                      replace U := U.cc V54.ch (by intro b hb; first | exact hb.elim | omega | (simp at hb ⊢; omega))
                                      have hbW : bas3 ≤ W54.heap.size := by rw [hbas3]; exact V54.ch.size
                                      refine c_seq (fun K55 hK55 => ?_)
                                      exact (by
                                        refine c_region ?_
                                        refine l_step (y_lss (et g0 rfl) (et (gS rfl g0) rfl)) ?_
                                        refine l_nil ?_
                                        refine hK55 _ _ ?_
                                        refine c_seq (fun K56 hK56 => ?_)
                                        refine c_cond (et g0 rfl) (fun cB5 => ?_) (fun cB5 => ?_)
                                        · skip
                                          
                                          have hjl : j < V.slots.length := by have := of_decide_eq_true cB5; omega
                                          have hy1 : V.slots[j]? = some V.slots[j] := List.getElem?_eq_getElem hjl
                                          have hsa9 := ho.sa _ (List.getElem_mem hjl)
                                          refine c_skip ?_
                                          refine hK56 _ _ ?_
                                          refine fg6 0 5 6 10 112 113 (gS rfl (gS rfl (gS rfl (gS rfl (gS rfl (gS rfl g0)))))) (gS rfl (gS rfl (gS rfl (gS rfl (gS rfl g0))))) (gS rfl (gS rfl (gS rfl (gS rfl g0)))) (gS rfl (gS rfl (gS rfl g0))) (gS rfl (gS rfl g0)) (gS rfl g0) (fun g => ?_)
                                          refine c_seq (fun K58 hK58 => ?_)
                                          refine c_block (fun Q59 hQ59 => ?_)
                                          refine c_seq (fun K60 hK60 => ?_)
                                          exact (by
                                            refine c_region ?_
                                            refine l_step (y_moveV (et g0 rfl)) ?_
                                            refine l_step (y_assignV (et g0 rfl)) ?_
                                            refine l_nil ?_
                                            refine hK60 _ _ ?_
                                            refine fg7 0 5 6 10 112 113 11 (gS rfl (gS rfl (gS rfl (gS rfl (gS rfl (gS rfl (gS rfl g0))))))) (gS rfl (gS rfl (gS rfl (gS rfl (gS rfl (gS rfl g0)))))) (gS rfl (gS rfl (gS rfl (gS rfl (gS rfl g0))))) (gS rfl (gS rfl (gS rfl (gS rfl g0)))) (gS rfl (gS rfl (gS rfl g0))) (gS rfl (gS rfl g0)) g0 (fun g => ?_)
                                            refine c_seq (fun K61 hK61 => ?_)
                                            exact (by
                                              refine c_region ?_
                                              refine l_step (y_moveV (et (gS rfl (gS rfl (gS rfl (gS rfl (gS rfl (gS rfl g0)))))) rfl)) ?_
                                              refine l_step (y_nil (et g0 rfl)) ?_
                                              refine l_step (y_fld fld_84_1 (et g0 rfl)) ?_
                                              refine l_step (y_load1 one_77 (et g0 rfl) (at1 (kC.cell h36))) ?_
                                              refine l_step (y_moveV (et (gS rfl (gS rfl (gS rfl (gS rfl g0)))) rfl)) ?_
                                              obtain ⟨bq, oq, Cq, rq, ha7, hBq, hRq, hrl, hrq, hokq⟩ := (hS.mono hL0).rowH (i := j) hjl
                                              rw [hrq] at hRq hrl
                                              have hac9 := hokq.acct
                                              refine l_step (y_idxSa ha7 Hvaa.underlying77 sz_176 (et (gS rfl g0) rfl) (et g0 rfl) ?_) ?_
                                              omega
                                              refine l_step (y_assignV (et g0 rfl)) ?_
                                              refine l_nil ?_
                                              refine hK61 _ _ ?_
                                              refine fg8 0 5 6 10 112 113 11 12 (gS rfl (gS rfl (gS rfl (gS rfl (gS rfl (gS rfl (gS rfl (gS rfl (gS rfl (gS rfl (gS rfl (gS rfl (gS rfl g0))))))))))))) (gS rfl (gS rfl (gS rfl (gS rfl (gS rfl (gS rfl (gS rfl (gS rfl (gS rfl (gS rfl (gS rfl (gS rfl g0)))))))))))) (gS rfl (gS rfl (gS rfl (gS rfl (gS rfl (gS rfl (gS rfl (gS rfl (gS rfl (gS rfl (gS rfl g0))))))))))) (gS rfl (gS rfl (gS rfl (gS rfl (gS rfl (gS rfl (gS rfl (gS rfl (gS rfl (gS rfl g0)))))))))) (gS rfl (gS rfl (gS rfl (gS rfl (gS rfl (gS rfl (gS rfl (gS rfl (gS rfl g0))))))))) (gS rfl (gS rfl (gS rfl (gS rfl (gS rfl (gS rfl (gS rfl (gS rfl g0)))))))) (gS rfl (gS rfl (gS rfl (gS rfl (gS rfl (gS rfl (gS rfl g0))))))) g0 (fun g => ?_)
                                              refine c_seq (fun K62 hK62 => ?_)
                                              exact (by
                                                refine c_region ?_
                                                refine l_step (y_moveV (et g0 rfl)) ?_
                                                refine l_step (y_nil (et g0 rfl)) ?_
                                                refine l_step (y_fld fld_176_0 (et g0 rfl)) ?_
                                                refine l_step (y_load1 one_21 (et g0 rfl) (at1 ((hBq.row hF hRq).c1 (j := 0) (show _ = some (Value.int .i32 (V.slots[j].acct : Nat)) from rfl) (by omega)))) ?_
                                                refine l_step (y_geq (et g0 rfl) rfl) ?_
                                                refine l_step (y_moveV (et g0 rfl)) ?_
                                                refine gsplitL (i := 127) g0 (fun q63 => ?_) (fun q63 => ?_)
                                                · skip
                                                  refine l_gstep (j := 5) (t := 127) (by exact rfl) (by exact rfl) (et g0 rfl) (by decide) (y_moveV (et (gS rfl (gS rfl (gS rfl (gS rfl (gS rfl (gS rfl (gS rfl g0))))))) rfl)) ?_
                                                  refine l_gstep (j := 5) (t := 127) (by exact rfl) (by exact rfl) (et (gS rfl g0) rfl) (by decide) (y_nil (et g0 rfl)) ?_
                                                  refine l_gstep (j := 5) (t := 127) (by exact rfl) (by exact rfl) (et (gS rfl (gS rfl g0)) rfl) (by decide) (y_fld fld_176_0 (et g0 rfl)) ?_
                                                  refine l_gstep (j := 5) (t := 127) (by exact rfl) (by exact rfl) (et (gS rfl (gS rfl (gS rfl g0))) rfl) (by decide) (y_load1 one_21 (et g0 rfl) (at1 ((hBq.row hF hRq).c1 (j := 0) (show _ = some (Value.int .i32 (V.slots[j].acct : Nat)) from rfl) (by omega)))) ?_
                                                  refine l_gstep (j := 5) (t := 127) (by exact rfl) (by exact rfl) (et (gS rfl (gS rfl (gS rfl (gS rfl g0)))) rfl) (by decide) (y_conv Hvaa.underlying21 Hvaa.underlying3 (et g0 rfl) (wrapIN ?_)) ?_
                                                  omega
                                                  refine l_gstep (j := 5) (t := 127) (by exact rfl) (by exact rfl) (et (gS rfl (gS rfl (gS rfl (gS rfl (gS rfl g0))))) rfl) (by decide) (y_moveV (et (gS rfl (gS rfl (gS rfl (gS rfl (gS rfl (gS rfl (gS rfl (gS rfl (gS rfl (gS rfl (gS rfl (gS rfl (gS rfl (gS rfl (gS rfl (gS rfl (gS rfl (gS rfl g0)))))))))))))))))) rfl)) ?_
                                                  refine l_gstep (j := 5) (t := 127) (by exact rfl) (by exact rfl) (et (gS rfl (gS rfl (gS rfl (gS rfl (gS rfl (gS rfl g0)))))) rfl) (by decide) (y_len Hvaa.underlying82 (et g0 rfl)) ?_
                                                  refine l_gstep (j := 5) (t := 127) (by exact rfl) (by exact rfl) (et (gS rfl (gS rfl (gS rfl (gS rfl (gS rfl (gS rfl (gS rfl g0))))))) rfl) (by decide) (y_lss (et (gS rfl (gS rfl g0)) rfl) (et g0 rfl)) ?_
                                                  refine l_step (y_pickT (et (gS rfl (gS rfl (gS rfl (gS rfl (gS rfl (gS rfl (gS rfl (gS rfl g0)))))))) rfl) (et g0 rfl)) ?_
                                                  refine l_step (y_moveV (et g0 rfl)) ?_
                                                  refine gsplitL (i := 137) g0 (fun q64 => ?_) (fun q64 => ?_)
                                                  · skip
                                                    refine l_gstep (j := 15) (t := 137) (by exact rfl) (by exact rfl) (et g0 rfl) (by decide) (y_moveV (et (gS rfl (gS rfl (gS rfl (gS rfl (gS rfl (gS rfl (gS rfl (gS rfl (gS rfl (gS rfl (gS rfl (gS rfl (gS rfl (gS rfl (gS rfl (gS rfl (gS rfl (gS rfl (gS rfl (gS rfl (gS rfl (gS rfl (gS rfl (gS rfl g0)))))))))))))))))))))))) rfl)) ?_
                                                    refine l_gstep (j := 15) (t := 137) (by exact rfl) (by exact rfl) (et (gS rfl g0) rfl) (by decide) (y_moveV (et (gS rfl (gS rfl (gS rfl (gS rfl (gS rfl (gS rfl (gS rfl (gS rfl (gS rfl (gS rfl (gS rfl (gS rfl (gS rfl (gS rfl (gS rfl (gS rfl (gS rfl (gS rfl (gS rfl g0))))))))))))))))))) rfl)) ?_
                                                    refine l_gstep (j := 15) (t := 137) (by exact rfl) (by exact rfl) (et (gS rfl (gS rfl g0)) rfl) (by decide) (y_nil (et g0 rfl)) ?_
                                                    refine l_gstep (j := 15) (t := 137) (by exact rfl) (by exact rfl) (et (gS rfl (gS rfl (gS rfl g0))) rfl) (by decide) (y_fld fld_176_0 (et g0 rfl)) ?_
                                                    refine l_gstep (j := 15) (t := 137) (by exact rfl) (by exact rfl) (et (gS rfl (gS rfl (gS rfl (gS rfl g0)))) rfl) (by decide) (y_load1 one_21 (et g0 rfl) (at1 ((hBq.row hF hRq).c1 (j := 0) (show _ = some (Value.int .i32 (V.slots[j].acct : Nat)) from rfl) (by omega)))) ?_
                                                    refine l_gstep (j := 15) (t := 137) (by exact rfl) (by exact rfl) (et (gS rfl (gS rfl (gS rfl (gS rfl (gS rfl g0))))) rfl) (by decide) (y_idxS Hvaa.underlying82 sz_21 (et (gS rfl (gS rfl (gS rfl (gS rfl g0)))) rfl) (et g0 rfl) ?_ ?_) ?_
                                                    omega
                                                    omega
                                                    refine l_gstep (j := 15) (t := 137) (by exact rfl) (by exact rfl) (et (gS rfl (gS rfl (gS rfl (gS rfl (gS rfl (gS rfl g0)))))) rfl) (by decide) (y_load1 one_21 (et g0 rfl) (at1 (k27.cell (h5.at9 hsa9 (by simp))))) ?_
                                                    refine l_gstep (j := 15) (t := 137) (by exact rfl) (by exact rfl) (et (gS rfl (gS rfl (gS rfl (gS rfl (gS rfl (gS rfl (gS rfl g0))))))) rfl) (by decide) (y_gtr (et g0 rfl) rfl) ?_
                                                    refine l_step (y_pickT (et (gS rfl (gS rfl (gS rfl (gS rfl (gS rfl (gS rfl (gS rfl (gS rfl g0)))))))) rfl) (et g0 rfl)) ?_
                                                    refine l_step (y_moveV (et g0 rfl)) ?_
                                                    refine gsplitL (i := 147) g0 (fun q65 => ?_) (fun q65 => ?_)
                                                    · skip
                                                      have hrk : 0 < (rkF K9 K9.length) V.slots[j].acct := by have := of_decide_eq_true q65; omega
                                                      refine l_gstep (j := 25) (t := 147) (by exact rfl) (by exact rfl) (et g0 rfl) (by decide) (y_moveV (et (gS rfl (gS rfl (gS rfl (gS rfl (gS rfl (gS rfl (gS rfl (gS rfl (gS rfl (gS rfl (gS rfl (gS rfl (gS rfl (gS rfl (gS rfl (gS rfl (gS rfl (gS rfl (gS rfl (gS rfl (gS rfl (gS rfl (gS rfl (gS rfl (gS rfl (gS rfl (gS rfl (gS rfl (gS rfl g0))))))))))))))))))))))))))))) rfl)) ?_
                                                      refine l_gstep (j := 25) (t := 147) (by exact rfl) (by exact rfl) (et (gS rfl g0) rfl) (by decide) (y_nil (et g0 rfl)) ?_
                                                      refine l_gstep (j := 25) (t := 147) (by exact rfl) (by exact rfl) (et (gS rfl (gS rfl g0)) rfl) (by decide) (y_fld fld_176_2 (et g0 rfl)) ?_
                                                      refine l_gstep (j := 25) (t := 147) (by exact rfl) (by exact rfl) (et (gS rfl (gS rfl (gS rfl g0))) rfl) (by decide) (y_loadR agg_65 sz_65 (et g0 rfl) rfl (at1R (esC_val (hBq.row hF hRq) (by omega)))) ?_
                                                      refine l_geff (j := 25) (t := 147) (by exact rfl) (by exact rfl) (et (gS rfl (gS rfl (gS rfl (gS rfl g0)))) rfl) rfl (e_callV cal_78 (aC (et g0 rfl) aN) (isZero_spec _ _ hokq.val)) (fun v66 w66 h66 => ?_)
                                                      obtain ⟨rfl, u66⟩ := h66
                                                      have hsz9 := u66.size
                                                      replace G := G.tr (Go.ofUp hF u66)
                                                      replace V54 := V54.tr (Go.ofUp hF u66)
                                                      replace hF := hF.up u66
                                                      replace k27 := k27.up u66
                                                      replace k29 := k29.up u66
                                                      replace kC := kC.up u66
                                                      replace hO := hO.up u66
                                                      replace U := U.tr u66
                                                      refine l_gstep (j := 25) (t := 147) (by exact rfl) (by exact rfl) (et (gS rfl (gS rfl (gS rfl (gS rfl (gS rfl g0))))) rfl) (by decide) (y_not (et g0 rfl)) ?_
                                                      refine l_step (y_pickT (et (gS rfl (gS rfl (gS rfl (gS rfl (gS rfl (gS rfl g0)))))) rfl) (et g0 rfl)) ?_
                                                      refine l_nil ?_
                                                      refine hK62 _ _ ?_
                                                      refine fg9 0 5 6 10 112 113 11 12 154 (gS rfl (gS rfl (gS rfl (gS rfl (gS rfl (gS rfl (gS rfl (gS rfl (gS rfl (gS rfl (gS rfl (gS rfl (gS rfl (gS rfl (gS rfl (gS rfl (gS rfl (gS rfl (gS rfl (gS rfl (gS rfl (gS rfl (gS rfl (gS rfl (gS rfl (gS rfl (gS rfl (gS rfl (gS rfl (gS rfl (gS rfl (gS rfl (gS rfl (gS rfl (gS rfl (gS rfl (gS rfl (gS rfl (gS rfl (gS rfl (gS rfl (gS rfl (gS rfl g0))))))))))))))))))))))))))))))))))))))))))) (gS rfl (gS rfl (gS rfl (gS rfl (gS rfl (gS rfl (gS rfl (gS rfl (gS rfl (gS rfl (gS rfl (gS rfl (gS rfl (gS rfl (gS rfl (gS rfl (gS rfl (gS rfl (gS rfl (gS rfl (gS rfl (gS rfl (gS rfl (gS rfl (gS rfl (gS rfl (gS rfl (gS rfl (gS rfl (gS rfl (gS rfl (gS rfl (gS rfl (gS rfl (gS rfl (gS rfl (gS rfl (gS rfl (gS rfl (gS rfl (gS rfl (gS rfl g0)))))))))))))))))))))))))))))))))))))))))) (gS rfl (gS rfl (gS rfl (gS rfl (gS rfl (gS rfl (gS rfl (gS rfl (gS rfl (gS rfl (gS rfl (gS rfl (gS rfl (gS rfl (gS rfl (gS rfl (gS rfl (gS rfl (gS rfl (gS rfl (gS rfl (gS rfl (gS rfl (gS rfl (gS rfl (gS rfl (gS rfl (gS rfl (gS rfl (gS rfl (gS rfl (gS rfl (gS rfl (gS rfl (gS rfl (gS rfl (gS rfl (gS rfl (gS rfl (gS rfl (gS rfl g0))))))))))))))))))))))))))))))))))))))))) (gS rfl (gS rfl (gS rfl (gS rfl (gS rfl (gS rfl (gS rfl (gS rfl (gS rfl (gS rfl (gS rfl (gS rfl (gS rfl (gS rfl (gS rfl (gS rfl (gS rfl (gS rfl (gS rfl (gS rfl (gS rfl (gS rfl (gS rfl (gS rfl (gS rfl (gS rfl (gS rfl (gS rfl (gS rfl (gS rfl (gS rfl (gS rfl (gS rfl (gS rfl (gS rfl (gS rfl (gS rfl (gS rfl (gS rfl (gS rfl g0)))))))))))))))))))))))))))))))))))))))) (gS rfl (gS rfl (gS rfl (gS rfl (gS rfl (gS rfl (gS rfl (gS rfl (gS rfl (gS rfl (gS rfl (gS rfl (gS rfl (gS rfl (gS rfl (gS rfl (gS rfl (gS rfl (gS rfl (gS rfl (gS rfl (gS rfl (gS rfl (gS rfl (gS rfl (gS rfl (gS rfl (gS rfl (gS rfl (gS rfl (gS rfl (gS rfl (gS rfl (gS rfl (gS rfl (gS rfl (gS rfl (gS rfl (gS rfl g0))))))))))))))))))))))))))))))))))))))) (gS rfl (gS rfl (gS rfl (gS rfl (gS rfl (gS rfl (gS rfl (gS rfl (gS rfl (gS rfl (gS rfl (gS rfl (gS rfl (gS rfl (gS rfl (gS rfl (gS rfl (gS rfl (gS rfl (gS rfl (gS rfl (gS rfl (gS rfl (gS rfl (gS rfl (gS rfl (gS rfl (gS rfl (gS rfl (gS rfl (gS rfl (gS rfl (gS rfl (gS rfl (gS rfl (gS rfl (gS rfl (gS rfl g0)))))))))))))))))))))))))))))))))))))) (gS rfl (gS rfl (gS rfl (gS rfl (gS rfl (gS rfl (gS rfl (gS rfl (gS rfl (gS rfl (gS rfl (gS rfl (gS rfl (gS rfl (gS rfl (gS rfl (gS rfl (gS rfl (gS rfl (gS rfl (gS rfl (gS rfl (gS rfl (gS rfl (gS rfl (gS rfl (gS rfl (gS rfl (gS rfl (gS rfl (gS rfl (gS rfl (gS rfl (gS rfl (gS rfl (gS rfl (gS rfl g0))))))))))))))))))))))))))))))))))))) (gS rfl (gS rfl (gS rfl (gS rfl (gS rfl (gS rfl (gS rfl (gS rfl (gS rfl (gS rfl (gS rfl (gS rfl (gS rfl (gS rfl (gS rfl (gS rfl (gS rfl (gS rfl (gS rfl (gS rfl (gS rfl (gS rfl (gS rfl (gS rfl (gS rfl (gS rfl (gS rfl (gS rfl (gS rfl (gS rfl (gS rfl (gS rfl (gS rfl (gS rfl (gS rfl (gS rfl g0)))))))))))))))))))))))))))))))))))) g0 (fun g => ?_)
                                                      refine c_cond (et g0 rfl) (fun cB6 => ?_) (fun cB6 => ?_)
                                                      · skip
                                                        
                                                        have hvz : V.slots[j].val ≠ 0 := by simpa using cB6
                                                        exact (by
                                                          refine c_draw (Ch (fun k => some k = vt.ownBlock)) 18 [(0, true), (1, true), (2, true), (3, true), (4, true), (5, true), (6, true), (7, true), (8, true), (9, true), (10, true), (11, true), (12, true), (13, true), (14, true), (15, false), (16, false), (17, true)] (by kernel_rfl) (fun w68 hu => ⟨Ch.refl _ _, ?_⟩)
                                                          replace G := G.tr (Go.ofUp hF hu)
                                                          replace V54 := V54.tr (Go.ofUp hF hu)
                                                          replace hF := hF.up hu
                                                          replace k27 := k27.up hu
                                                          replace k29 := k29.up hu
                                                          replace kC := kC.up hu
                                                          replace hO := hO.up hu
                                                          replace U := U.tr hu
                                                          have SU : (Ch (fun k => some k = vt.ownBlock)) w68 w68 := Ch.refl _ _
                                                          refine p_step (by exact rfl) (y_moveV (et (gS rfl (gS rfl (gS rfl (gS rfl (gS rfl g0))))) rfl)) ?_
                                                          refine p_step (by exact rfl) (y_moveV (et (gS rfl (gS rfl (gS rfl (gS rfl (gS rfl (gS rfl (gS rfl (gS rfl g0)))))))) rfl)) ?_
                                                          refine p_step (by exact rfl) (y_moveV (et (gS rfl (gS rfl (gS rfl g0))) rfl)) ?_
                                                          refine p_step (by exact rfl) (y_nil (et g0 rfl)) ?_
                                                          refine p_step (by exact rfl) (y_fld fld_176_0 (et g0 rfl)) ?_
                                                          refine p_step (by exact rfl) (y_load1 one_21 (et g0 rfl) (atC ((hBq.row hF hRq).c1 (j := 0) (show _ = some (Value.int .i32 (V.slots[j].acct : Nat)) from rfl) (by omega)) (by first | exact hO.ne (by omega) | exact hOo.ne (by omega) | exact hO.ne (.inl (hHb _ ⟨_, hBq.eq⟩)) | omega))) ?_
                                                          refine p_step (by exact rfl) (y_idxS Hvaa.underlying82 sz_21 (et (gS rfl (gS rfl (gS rfl (gS rfl g0)))) rfl) (et g0 rfl) ?_ ?_) ?_
                                                          omega
                                                          omega
                                                          refine p_step (by exact rfl) (y_load1 one_21 (et g0 rfl) (atC (k27.cell (h5.at9 hsa9 (by simp))) (by first | exact hO.ne (by omega) | exact hOo.ne (by omega) | exact hO.ne (.inl (hHb _ ⟨_, hBq.eq⟩)) | omega))) ?_
                                                          refine p_step (by exact rfl) (y_moveV (et (gS rfl (gS rfl (gS rfl (gS rfl (gS rfl (gS rfl (gS rfl (gS rfl (gS rfl g0))))))))) rfl)) ?_
                                                          refine p_step (by exact rfl) (y_nil (et g0 rfl)) ?_
                                                          refine p_step (by exact rfl) (y_fld fld_176_1 (et g0 rfl)) ?_
                                                          refine p_step (by exact rfl) (y_loadR agg_65 sz_65 (et g0 rfl) rfl (atCR (esC_key (hBq.row hF hRq) (by omega)) (by first | exact hO.ne (by omega) | exact hOo.ne (by omega) | exact hO.ne (.inl (hHb _ ⟨_, hBq.eq⟩)) | omega))) ?_
                                                          refine p_step (by exact rfl) (y_moveV (et (gS rfl (gS rfl (gS rfl (gS rfl (gS rfl (gS rfl (gS rfl (gS rfl (gS rfl (gS rfl (gS rfl (gS rfl (gS rfl (gS rfl g0)))))))))))))) rfl)) ?_
                                                          refine p_step (by exact rfl) (y_conv Hvaa.underlying3 Hvaa.underlying21 (et g0 rfl) (wrap_i32 ?_ ?_)) ?_
                                                          omega
                                                          omega
                                                          refine p_step (by exact rfl) (y_bld (bC (et (gS rfl (gS rfl (gS rfl (gS rfl (gS rfl (gS rfl g0)))))) rfl) (bC (et (gS rfl (gS rfl g0)) rfl) (bC (et g0 rfl) bN))) bld_sk3) ?_
                                                          refine p_eff (by exact rfl) (e_slice1 Hvaa.underlying165 sz_170 zr_170 rfl (by decide) (et g0 rfl) (by rw [show (Value.agg ((skC ⟨(rkF K9 K9.length) V.slots[j].acct, V.slots[j].key, j⟩)).toArray).cells = ((skC ⟨(rkF K9 K9.length) V.slots[j].acct, V.slots[j].key, j⟩)).toArray from rfl, List.size_toArray, (skC_len _)])) (fun v69 w69 h69 => ?_)
                                                          obtain ⟨b69, rfl, n69⟩ := h69
                                                          replace G := G.tr (Go.ofUp hF n69.up)
                                                          replace V54 := V54.tr (Go.ofUp hF n69.up)
                                                          replace hF := hF.up n69.up
                                                          replace k27 := k27.up n69.up
                                                          replace k29 := k29.up n69.up
                                                          replace kC := kC.up n69.up
                                                          replace hO := hO.up n69.up
                                                          replace U := U.tr n69.up
                                                          have kq69 : Blk w69 b69 ((skC ⟨(rkF K9 K9.length) V.slots[j].acct, V.slots[j].key, j⟩)).toArray := n69.blk
                                                          refine ⟨.inr (SU.tr n69.up), ?_⟩
                                                          replace SU := SU.tr n69.up
                                                          exact (by
                                                            have hbz : bas3 ≤ w69.heap.size := by have h1 := V54.ch.size; omega
                                                            have hbd9 := ho.bd.slots
                                                            have hbd8 := sks_len (f := (rkF K9 K9.length)) (l := V.slots) j
                                                            have hbd7 := rkF_le (K := K9) V.slots[j].acct K9.length
                                                            refine p_eff (by exact rfl) (e_appL Hvaa.underlying165 sz_170 zr_170 by_170 rfl (by decide) (et (gS rfl (gS rfl (gS rfl (gS rfl (gS rfl (gS rfl (gS rfl (gS rfl (gS rfl (gS rfl (gS rfl (gS rfl (gS rfl (gS rfl (gS rfl g0))))))))))))))) rfl) hO (et g0 rfl) (skC_len _) kq69 (skC_one _) (show P_sk H _ (⟨(rkF K9 K9.length) V.slots[j].acct, V.slots[j].key, j⟩ : SK) from ⟨rfl, (by show (rkF K9 K9.length) V.slots[j].acct < 4096; omega), hokq.key, (by show j < 4096; omega)⟩) (by decide) (by omega) hbz) (fun v70 w70 h70 => ?_)
                                                            obtain ⟨hO70, c70, hown70⟩ := h70
                                                            have hOo := hO
                                                            replace G := G.chs c70 (by intro b hb; have h9 := hOo.lim b hb.symm; first | exact .inr (by omega) | exact .inl (by omega) | omega) (by intro q hq hh; have := hHb q hh; have := hOo.lim q hq.symm; omega)
                                                            replace V54 := V54.chs c70 (by intro b hb; have h9 := hOo.lim b hb.symm; first | exact .inr (by omega) | exact .inl (by omega) | omega) (by intro q hq hh; have := hHb q hh; have := hOo.lim q hq.symm; omega)
                                                            replace hF := G.fz
                                                            replace k27 := k27.ch c70 (by first | omega | exact hOo.ne (by omega))
                                                            replace k29 := k29.ch c70 (by first | omega | exact hOo.ne (by omega))
                                                            replace kC := kC.ch c70 (by first | omega | exact hOo.ne (by omega))
                                                            replace hO := hO70
                                                            replace U := U.cc c70 (by intro b hb; have h9 := hOo.lim b hb.symm; first | exact .inr (by omega) | exact .inl (by omega) | omega)
                                                            replace SU := SU.cc c70 (by intro b hb; first | exact .inl hb | exact hb.elim | omega | (have h9 := hOo.lim b hb.symm; first | exact .inl (by omega) | omega))
                                                            refine ⟨.inr SU, ?_⟩
                                                            refine p_step (by exact rfl) (y_assignV (et g0 rfl)) ?_
                                                            refine p_nil ?_
                                                            refine hQ59 _ _ _ (in_normal ?_)
                                                            refine hK58 _ _ ?_
                                                            refine fg6 0 5 6 10 112 113 (gS rfl (gS rfl (gS rfl (gS rfl (gS rfl (gS rfl (gS rfl (gS rfl (gS rfl (gS rfl (gS rfl (gS rfl (gS rfl (gS rfl (gS rfl (gS rfl (gS rfl (gS rfl (gS rfl (gS rfl (gS rfl (gS rfl (gS rfl (gS rfl (gS rfl (gS rfl g0)))))))))))))))))))))))))) (gS rfl (gS rfl (gS rfl (gS rfl (gS rfl (gS rfl (gS rfl (gS rfl (gS rfl (gS rfl (gS rfl (gS rfl (gS rfl (gS rfl (gS rfl (gS rfl (gS rfl (gS rfl (gS rfl (gS rfl (gS rfl (gS rfl (gS rfl (gS rfl (gS rfl g0))))))))))))))))))))))))) (gS rfl (gS rfl (gS rfl (gS rfl (gS rfl (gS rfl (gS rfl (gS rfl (gS rfl (gS rfl (gS rfl (gS rfl (gS rfl (gS rfl (gS rfl (gS rfl (gS rfl (gS rfl (gS rfl (gS rfl (gS rfl (gS rfl (gS rfl (gS rfl g0)))))))))))))))))))))))) g0 (gS rfl (gS rfl (gS rfl (gS rfl (gS rfl (gS rfl (gS rfl (gS rfl (gS rfl (gS rfl (gS rfl (gS rfl (gS rfl (gS rfl (gS rfl (gS rfl (gS rfl (gS rfl (gS rfl (gS rfl (gS rfl (gS rfl g0)))))))))))))))))))))) (gS rfl (gS rfl (gS rfl (gS rfl (gS rfl (gS rfl (gS rfl (gS rfl (gS rfl (gS rfl (gS rfl (gS rfl (gS rfl (gS rfl (gS rfl (gS rfl (gS rfl (gS rfl (gS rfl (gS rfl (gS rfl g0))))))))))))))))))))) (fun g => ?_)
                                                            refine c_region ?_
                                                            refine l_step (y_add (et g0 rfl) rfl (addIN (y := 1) ?_)) ?_
                                                            omega
                                                            refine l_step (y_moveV (et g0 rfl)) ?_
                                                            refine l_nil ?_
                                                            refine fK6 0 5 6 10 112 113 (gS rfl (gS rfl (gS rfl (gS rfl (gS rfl (gS rfl (gS rfl g0))))))) (gS rfl (gS rfl (gS rfl (gS rfl (gS rfl (gS rfl g0)))))) (gS rfl (gS rfl (gS rfl (gS rfl (gS rfl g0))))) (gS rfl (gS rfl (gS rfl (gS rfl g0)))) (gS rfl (gS rfl (gS rfl g0))) g0 (fun g => ?_)
                                                            exact hK54 (V.slots.length - ((j + 1))) _ _ (by omega) ⟨g, _, _, (j + 1), rfl, rfl, by omega, by rw [sks_yes hy1 ⟨hrk, hvz⟩]; exact hO, by rw [sks_yes hy1 ⟨hrk, hvz⟩]; intro h9; simp at h9, hHb, V54⟩))
                                                      · skip
                                                        
                                                        have hno : ¬ (0 < (rkF K9 K9.length) V.slots[j].acct ∧ V.slots[j].val ≠ 0) := fun h9 => h9.2 (by simpa using cB6)
                                                        refine c_skip ?_
                                                        refine hQ59 _ _ _ (in_normal ?_)
                                                        refine hK58 _ _ ?_
                                                        refine fg6 0 5 6 10 112 113 (gS rfl (gS rfl (gS rfl (gS rfl (gS rfl (gS rfl (gS rfl (gS rfl g0)))))))) (gS rfl (gS rfl (gS rfl (gS rfl (gS rfl (gS rfl (gS rfl g0))))))) (gS rfl (gS rfl (gS rfl (gS rfl (gS rfl (gS rfl g0)))))) (gS rfl (gS rfl (gS rfl (gS rfl (gS rfl g0))))) (gS rfl (gS rfl (gS rfl (gS rfl g0)))) (gS rfl (gS rfl (gS rfl g0))) (fun g => ?_)
                                                        refine c_region ?_
                                                        refine l_step (y_add (et g0 rfl) rfl (addIN (y := 1) ?_)) ?_
                                                        omega
                                                        refine l_step (y_moveV (et g0 rfl)) ?_
                                                        refine l_nil ?_
                                                        refine fK6 0 5 6 10 112 113 (gS rfl (gS rfl (gS rfl (gS rfl (gS rfl (gS rfl (gS rfl g0))))))) (gS rfl (gS rfl (gS rfl (gS rfl (gS rfl (gS rfl g0)))))) (gS rfl (gS rfl (gS rfl (gS rfl (gS rfl g0))))) (gS rfl (gS rfl (gS rfl (gS rfl g0)))) (gS rfl (gS rfl (gS rfl g0))) g0 (fun g => ?_)
                                                        exact hK54 (V.slots.length - ((j + 1))) _ _ (by omega) ⟨g, _, _, (j + 1), rfl, rfl, by omega, by rw [sks_no hy1 hno]; first | exact hO | exact hO.mono hsz9, by rw [sks_no hy1 hno]; exact hnl, hHb, V54⟩
                                                    · skip
                                                      have hrk : ¬ 0 < (rkF K9 K9.length) V.slots[j].acct := by have := of_decide_eq_false q65; omega
                                                      have hno : ¬ (0 < (rkF K9 K9.length) V.slots[j].acct ∧ V.slots[j].val ≠ 0) := fun h9 => hrk h9.1
                                                      refine l_gskip (j := 25) (t := 147) (by exact rfl) (by exact rfl) (et g0 rfl) (by decide) (by decide) ?_
                                                      refine l_gskip (j := 25) (t := 147) (by exact rfl) (by exact rfl) (et (gS rfl g0) rfl) (by decide) (by decide) ?_
                                                      refine l_gskip (j := 25) (t := 147) (by exact rfl) (by exact rfl) (et (gS rfl (gS rfl g0)) rfl) (by decide) (by decide) ?_
                                                      refine l_gskip (j := 25) (t := 147) (by exact rfl) (by exact rfl) (et (gS rfl (gS rfl (gS rfl g0))) rfl) (by decide) (by decide) ?_
                                                      refine l_gskip (j := 25) (t := 147) (by exact rfl) (by exact rfl) (et (gS rfl (gS rfl (gS rfl (gS rfl g0)))) rfl) (by decide) (by decide) ?_
                                                      refine l_gskip (j := 25) (t := 147) (by exact rfl) (by exact rfl) (et (gS rfl (gS rfl (gS rfl (gS rfl (gS rfl g0))))) rfl) (by decide) (by decide) ?_
                                                      refine l_step (y_pickF (et (gS rfl (gS rfl (gS rfl (gS rfl (gS rfl (gS rfl g0)))))) rfl) rfl) ?_
                                                      refine l_nil ?_
                                                      refine hK62 _ _ ?_
                                                      refine fg9 0 5 6 10 112 113 11 12 154 (gS rfl (gS rfl (gS rfl (gS rfl (gS rfl (gS rfl (gS rfl (gS rfl (gS rfl (gS rfl (gS rfl (gS rfl (gS rfl (gS rfl (gS rfl (gS rfl (gS rfl (gS rfl (gS rfl (gS rfl (gS rfl (gS rfl (gS rfl (gS rfl (gS rfl (gS rfl (gS rfl (gS rfl (gS rfl (gS rfl (gS rfl (gS rfl (gS rfl (gS rfl (gS rfl (gS rfl (gS rfl (gS rfl (gS rfl (gS rfl (gS rfl (gS rfl (gS rfl g0))))))))))))))))))))))))))))))))))))))))))) (gS rfl (gS rfl (gS rfl (gS rfl (gS rfl (gS rfl (gS rfl (gS rfl (gS rfl (gS rfl (gS rfl (gS rfl (gS rfl (gS rfl (gS rfl (gS rfl (gS rfl (gS rfl (gS rfl (gS rfl (gS rfl (gS rfl (gS rfl (gS rfl (gS rfl (gS rfl (gS rfl (gS rfl (gS rfl (gS rfl (gS rfl (gS rfl (gS rfl (gS rfl (gS rfl (gS rfl (gS rfl (gS rfl (gS rfl (gS rfl (gS rfl (gS rfl g0)))))))))))))))))))))))))))))))))))))))))) (gS rfl (gS rfl (gS rfl (gS rfl (gS rfl (gS rfl (gS rfl (gS rfl (gS rfl (gS rfl (gS rfl (gS rfl (gS rfl (gS rfl (gS rfl (gS rfl (gS rfl (gS rfl (gS rfl (gS rfl (gS rfl (gS rfl (gS rfl (gS rfl (gS rfl (gS rfl (gS rfl (gS rfl (gS rfl (gS rfl (gS rfl (gS rfl (gS rfl (gS rfl (gS rfl (gS rfl (gS rfl (gS rfl (gS rfl (gS rfl (gS rfl g0))))))))))))))))))))))))))))))))))))))))) (gS rfl (gS rfl (gS rfl (gS rfl (gS rfl (gS rfl (gS rfl (gS rfl (gS rfl (gS rfl (gS rfl (gS rfl (gS rfl (gS rfl (gS rfl (gS rfl (gS rfl (gS rfl (gS rfl (gS rfl (gS rfl (gS rfl (gS rfl (gS rfl (gS rfl (gS rfl (gS rfl (gS rfl (gS rfl (gS rfl (gS rfl (gS rfl (gS rfl (gS rfl (gS rfl (gS rfl (gS rfl (gS rfl (gS rfl (gS rfl g0)))))))))))))))))))))))))))))))))))))))) (gS rfl (gS rfl (gS rfl (gS rfl (gS rfl (gS rfl (gS rfl (gS rfl (gS rfl (gS rfl (gS rfl (gS rfl (gS rfl (gS rfl (gS rfl (gS rfl (gS rfl (gS rfl (gS rfl (gS rfl (gS rfl (gS rfl (gS rfl (gS rfl (gS rfl (gS rfl (gS rfl (gS rfl (gS rfl (gS rfl (gS rfl (gS rfl (gS rfl (gS rfl (gS rfl (gS rfl (gS rfl (gS rfl (gS rfl g0))))))))))))))))))))))))))))))))))))))) (gS rfl (gS rfl (gS rfl (gS rfl (gS rfl (gS rfl (gS rfl (gS rfl (gS rfl (gS rfl (gS rfl (gS rfl (gS rfl (gS rfl (gS rfl (gS rfl (gS rfl (gS rfl (gS rfl (gS rfl (gS rfl (gS rfl (gS rfl (gS rfl (gS rfl (gS rfl (gS rfl (gS rfl (gS rfl (gS rfl (gS rfl (gS rfl (gS rfl (gS rfl (gS rfl (gS rfl (gS rfl (gS rfl g0)))))))))))))))))))))))))))))))))))))) (gS rfl (gS rfl (gS rfl (gS rfl (gS rfl (gS rfl (gS rfl (gS rfl (gS rfl (gS rfl (gS rfl (gS rfl (gS rfl (gS rfl (gS rfl (gS rfl (gS rfl (gS rfl (gS rfl (gS rfl (gS rfl (gS rfl (gS rfl (gS rfl (gS rfl (gS rfl (gS rfl (gS rfl (gS rfl (gS rfl (gS rfl (gS rfl (gS rfl (gS rfl (gS rfl (gS rfl (gS rfl g0))))))))))))))))))))))))))))))))))))) (gS rfl (gS rfl (gS rfl (gS rfl (gS rfl (gS rfl (gS rfl (gS rfl (gS rfl (gS rfl (gS rfl (gS rfl (gS rfl (gS rfl (gS rfl (gS rfl (gS rfl (gS rfl (gS rfl (gS rfl (gS rfl (gS rfl (gS rfl (gS rfl (gS rfl (gS rfl (gS rfl (gS rfl (gS rfl (gS rfl (gS rfl (gS rfl (gS rfl (gS rfl (gS rfl (gS rfl g0)))))))))))))))))))))))))))))))))))) g0 (fun g => ?_)
                                                      refine c_false (et g0 rfl) rfl ?_
                                                      refine c_skip ?_
                                                      refine hQ59 _ _ _ (in_normal ?_)
                                                      refine hK58 _ _ ?_
                                                      refine fg6 0 5 6 10 112 113 (gS rfl (gS rfl (gS rfl (gS rfl (gS rfl (gS rfl (gS rfl (gS rfl g0)))))))) (gS rfl (gS rfl (gS rfl (gS rfl (gS rfl (gS rfl (gS rfl g0))))))) (gS rfl (gS rfl (gS rfl (gS rfl (gS rfl (gS rfl g0)))))) (gS rfl (gS rfl (gS rfl (gS rfl (gS rfl g0))))) (gS rfl (gS rfl (gS rfl (gS rfl g0)))) (gS rfl (gS rfl (gS rfl g0))) (fun g => ?_)
                                                      exact (by
                                                        refine c_region ?_
                                                        refine l_step (y_add (et g0 rfl) rfl (addIN (y := 1) ?_)) ?_
                                                        omega
                                                        refine l_step (y_moveV (et g0 rfl)) ?_
                                                        refine l_nil ?_
                                                        refine fK6 0 5 6 10 112 113 (gS rfl (gS rfl (gS rfl (gS rfl (gS rfl (gS rfl (gS rfl g0))))))) (gS rfl (gS rfl (gS rfl (gS rfl (gS rfl (gS rfl g0)))))) (gS rfl (gS rfl (gS rfl (gS rfl (gS rfl g0))))) (gS rfl (gS rfl (gS rfl (gS rfl g0)))) (gS rfl (gS rfl (gS rfl g0))) g0 (fun g => ?_)
                                                        exact hK54 (V.slots.length - ((j + 1))) _ _ (by omega) ⟨g, _, _, (j + 1), rfl, rfl, by omega, by rw [sks_no hy1 hno]; first | exact hO | exact hO.mono hsz9, by rw [sks_no hy1 hno]; exact hnl, hHb, V54⟩)
                                                  · skip
                                                    exact absurd (of_decide_eq_false q64) (by omega)
                                                · skip
                                                  exact absurd (of_decide_eq_false q63) (by omega))))
                                        · skip
                                          
                                          have hje : j = V.slots.length := by have := of_decide_eq_false cB5; omega
                                          subst hje
                                          refine c_exit ?_
                                          refine hQ53 _ _ _ (in_exit ?_)
                                          refine hK51 _ _ ?_
                                          refine fg3 0 6 10 (gS rfl (gS rfl (gS rfl (gS rfl (gS rfl (gS rfl g0)))))) (gS rfl (gS rfl (gS rfl (gS rfl g0)))) (gS rfl (gS rfl (gS rfl g0))) (fun g => ?_)
                                          refine c_seq (fun K72 hK72 => ?_)
                                          exact (by
                                            refine c_region ?_
                                            refine l_step (y_moveV (et g0 rfl)) ?_
                                            have hOo := hO
                                            have hbd9 := ho.bd.slots
                                            have hbd8 := sks_len (f := (rkF K9 K9.length)) (l := V.slots) V.slots.length
                                            have hbW2 : bas3 ≤ W54.heap.size := by have := hbW; omega
                                            refine l_eff (e_callV cal_75 (aC (et g0 rfl) aN) (v_sortedG hOo (by omega) hbW2 hnl)) (fun v73 w73 h73 => ?_)
                                            obtain ⟨S9, hSp, hSs, hSR, c73⟩ := h73
                                            replace G := G.chs c73 (by intro b hb; have h9 := hOo.lim b hb.symm; first | exact .inr (by omega) | exact .inl (by omega) | omega) (by intro q hq hh; have := hHb q hh; have := hOo.lim q hq.symm; omega)
                                            replace hF := G.fz
                                            replace k27 := k27.ch c73 (by first | omega | exact hOo.ne (by omega))
                                            replace k29 := k29.ch c73 (by first | omega | exact hOo.ne (by omega))
                                            replace kC := kC.ch c73 (by first | omega | exact hOo.ne (by omega))
                                            replace U := U.cc c73 (by intro b hb; have h9 := hOo.lim b hb.symm; first | exact .inr (by omega) | exact .inl (by omega) | omega)
                                            have hbw := hbwbas3
                                            obtain ⟨Hz74, Gz74, hlz74, lvz74, hnz74⟩ := hSR.keep' mono_sk G (Le.refl _) hbw
                                            replace G := Gz74
                                            replace hF := G.fz
                                            replace lvz25 := lvz25.mono hlz74
                                            replace hKL := hKL.mono hlz74
                                            replace h6 := h6.mono hlz74
                                            replace hL0 := hL0.trans hlz74
                                            replace nb27 := fun hh => (hnz74 _ hh).elim nb27 (fun e => hSR.ne (by omega) e)
                                            replace nb29 := fun hh => (hnz74 _ hh).elim nb29 (fun e => hSR.ne (by omega) e)
                                            have hSL := lvz74
                                            obtain ⟨sa9, sc9, rfl, _⟩ := hSL.val
                                            have mS : ∀ k ∈ S9, ∃ y, V.slots[k.pl]? = some y ∧ (0 < (rkF K9 K9.length) y.acct ∧ y.val ≠ 0) ∧ k = ⟨(rkF K9 K9.length) y.acct, y.key, k.pl⟩ := fun k hk => ((sks_mem _).1 (hSp.mem_iff.1 hk)).2
                                            have hSn : S9.length ≤ 2560 := by rw [hSp.length_eq]; omega
                                            refine l_step (y_assignV (et g0 rfl)) ?_
                                            refine l_nil ?_
                                            refine hK72 _ _ ?_
                                            refine fg3 0 6 10 (gS rfl (gS rfl (gS rfl (gS rfl (gS rfl g0))))) (gS rfl (gS rfl (gS rfl (gS rfl g0)))) g0 (fun g => ?_)
                                            refine c_seq (fun K75 hK75 => ?_)
                                            refine c_seq (fun K76 hK76 => ?_)
                                            exact (by
                                              refine c_region ?_
                                              refine l_step y_assignC ?_
                                              refine l_nil ?_
                                              refine hK76 _ _ ?_
                                              refine c_block (fun Q77 hQ77 => ?_)
                                              refine fg4 0 6 10 13 (gS rfl (gS rfl (gS rfl g0))) (gS rfl (gS rfl g0)) (gS rfl g0) g0 (fun g => ?_)
                                              refine c_loop (fun k_ s_ W78 => ∃ (g : Nat → Value) (Hk78 : Store) (C6 : Array Value) (f : Nat), s_ = (upd (upd (upd (upd g 0 (.pointer (some ⟨bc, 2435, none⟩))) 6 (.slice (some ⟨b29, 0, none⟩) K9.length K9.length)) 10 (.slice sa9 S9.length sc9)) 13 (.int .i64 (f : Nat))) ∧ S9.length - f = k_ ∧ (f ≤ S9.length) ∧ (Cut S9 f) ∧ (RA P_oacct 55 Hk78 C6 (wL2 V.accts V.slots K9 S9 f)) ∧ Blk W78 b29 (C6) ∧ Go (fun k => k = b29) w73 Hz74 W78 Hk78) (S9.length - (0)) ?_ ?_
                                              · exact ⟨g, _, _, 0, rfl, rfl, Nat.zero_le _, cutz _, by rw [wL2_zero]; exact h6, k29, Go.refl hF⟩
                                              · skip
                                                intro k_ s_ W78 hI K78 hK78
                                                obtain ⟨g, Hk78, C6, f, rfl, rfl, hf9, hct, h6, nk29, V78⟩ := hI
                                                have hle78 := V78.le
                                                replace nb27 := V78.nb nb27 k27.lt
                                                replace nb29 := V78.nb nb29 k29.lt
                                                replace lvz25 := lvz25.mono hle78
                                                replace hKL := hKL.mono hle78
                                                replace lvz74 := lvz74.mono hle78
                                                replace hSL := hSL.mono hle78
                                                replace hL0 := hL0.trans hle78
                                                replace G := G.trans V78 (by intro b hb; first | exact hb.elim | omega | (simp at hb ⊢; omega))
                                                replace hF := V78.fz
                                                replace k27 := k27.ch V78.ch (by omega)
                                                replace kC := kC.ch V78.ch (by first | omega | exact hOo.ne (by omega))
                                                replace k29 := nk29
                                                replace U := U.cc V78.ch (by intro b hb; first | exact hb.elim | omega | (simp at hb ⊢; omega))
                                                refine c_seq (fun K79 hK79 => ?_)
                                                refine c_seq (fun K80 hK80 => ?_)
                                                exact (by
                                                  refine c_region ?_
                                                  refine l_step (y_moveV (et g0 rfl)) ?_
                                                  refine l_step (y_moveV (et (gS rfl (gS rfl g0)) rfl)) ?_
                                                  refine l_step (y_len Hvaa.underlying165 (et g0 rfl)) ?_
                                                  refine l_step (y_lss (et (gS rfl (gS rfl g0)) rfl) (et g0 rfl)) ?_
                                                  refine l_nil ?_
                                                  refine hK80 _ _ ?_
                                                  refine fg5 0 6 10 13 178 (gS rfl (gS rfl (gS rfl (gS rfl (gS rfl (gS rfl (gS rfl g0))))))) (gS rfl (gS rfl (gS rfl (gS rfl (gS rfl (gS rfl g0)))))) (gS rfl (gS rfl (gS rfl (gS rfl (gS rfl g0))))) (gS rfl (gS rfl (gS rfl (gS rfl g0)))) g0 (fun g => ?_)
                                                  refine c_cond (et g0 rfl) (fun cB7 => ?_) (fun cB7 => ?_)
                                                  · skip
                                                    
                                                    have hfl : f < S9.length := by have := of_decide_eq_true cB7; omega
                                                    refine c_skip ?_
                                                    refine hK79 _ _ ?_
                                                    refine fg4 0 6 10 13 (gS rfl (gS rfl (gS rfl (gS rfl g0)))) (gS rfl (gS rfl (gS rfl g0))) (gS rfl (gS rfl g0)) (gS rfl g0) (fun g => ?_)
                                                    refine c_block (fun Q82 hQ82 => ?_)
                                                    refine c_seq (fun K83 hK83 => ?_)
                                                    exact (by
                                                      refine c_region ?_
                                                      refine l_step y_assignC ?_
                                                      refine l_nil ?_
                                                      refine hK83 _ _ ?_
                                                      refine c_seq (fun K84 hK84 => ?_)
                                                      refine c_block (fun Q85 hQ85 => ?_)
                                                      refine fg5 0 6 10 13 14 (gS rfl (gS rfl (gS rfl (gS rfl g0)))) (gS rfl (gS rfl (gS rfl g0))) (gS rfl (gS rfl g0)) (gS rfl g0) g0 (fun g => ?_)
                                                      refine c_loop (fun k_ s_ W86 => ∃ (g : Nat → Value) (Hk86 : Store) (n : Nat), s_ = (upd (upd (upd (upd (upd g 0 (.pointer (some ⟨bc, 2435, none⟩))) 6 (.slice (some ⟨b29, 0, none⟩) K9.length K9.length)) 10 (.slice sa9 S9.length sc9)) 13 (.int .i64 (f : Nat))) 14 (.int .i64 (n : Nat))) ∧ S9.length - (f + n) = k_ ∧ (f + n ≤ S9.length) ∧ (∀ x ∈ (S9.drop f).take n, x.rank = S9[f].rank) ∧ Go (fun k => False) W78 Hk78 W86 Hk86) (S9.length - (f + (0))) ?_ ?_
                                                      · exact ⟨g, _, 0, rfl, rfl, by omega, fun x hx => by simp at hx, Go.refl hF⟩
                                                      · skip
                                                        intro k_ s_ W86 hI K86 hK86
                                                        obtain ⟨g, Hk86, n, rfl, rfl, hfn, hgr, V86⟩ := hI
                                                        have hle86 := V86.le
                                                        replace nb27 := V86.nb nb27 k27.lt
                                                        replace nb29 := V86.nb nb29 k29.lt
                                                        replace lvz25 := lvz25.mono hle86
                                                        replace hKL := hKL.mono hle86
                                                        replace lvz74 := lvz74.mono hle86
                                                        replace hSL := hSL.mono hle86
                                                        replace h6 := h6.mono hle86
                                                        replace hL0 := hL0.trans hle86
                                                        replace G := G.trans V86 (by intro b hb; first | exact hb.elim | omega | (simp at hb ⊢; omega))
                                                        replace V78 := V78.trans V86 (by intro b hb; first | exact hb.elim | omega | (simp at hb ⊢; omega))
                                                        replace hF := V86.fz
                                                        replace k27 := k27.ch V86.ch (by exact fun h => h)
                                                        replace k29 := k29.ch V86.ch (by exact fun h => h)
                                                        replace kC := kC.ch V86.ch (by first | exact fun h => h | exact fun _ h => h.elim | exact fun _ _ h => h)
                                                        replace U := U.cc V86.ch (by intro b hb; first | exact hb.elim | omega | (simp at hb ⊢; omega))
                                                        refine c_seq (fun K87 hK87 => ?_)
                                                        refine c_seq (fun K88 hK88 => ?_)
                                                        have hJ88 : ∀ (s_ : Nat → Value) (W88 : World), (∃ (g : Nat → Value) (Hk88 : Store) (b9 : Bool), s_ = (upd (upd (upd (upd (upd (upd g 0 (.pointer (some ⟨bc, 2435, none⟩))) 6 (.slice (some ⟨b29, 0, none⟩) K9.length K9.length)) 10 (.slice sa9 S9.length sc9)) 13 (.int .i64 (f : Nat))) 14 (.int .i64 (n : Nat))) 199 (.bool b9)) ∧ (b9 = true ↔ (f + n < S9.length ∧ ∀ hq : f + n < S9.length, S9[f + n].rank = S9[f].rank)) ∧ Go (fun k => False) W86 Hk86 W88 Hk88) → K88 (mk 250 s_) W88 := by
                                                          intro s_ W88 hI
                                                          obtain ⟨g, Hk88, b9, rfl, hb9, V88⟩ := hI
                                                          have hle88 := V88.le
                                                          replace nb27 := V88.nb nb27 k27.lt
                                                          replace nb29 := V88.nb nb29 k29.lt
                                                          replace lvz25 := lvz25.mono hle88
                                                          replace hKL := hKL.mono hle88
                                                          replace lvz74 := lvz74.mono hle88
                                                          replace hSL := hSL.mono hle88
                                                          replace h6 := h6.mono hle88
                                                          replace hL0 := hL0.trans hle88
                                                          replace G := G.trans V88 (by intro b hb; first | exact hb.elim | omega | (simp at hb ⊢; omega))
                                                          replace V78 := V78.trans V88 (by intro b hb; first | exact hb.elim | omega | (simp at hb ⊢; omega))
                                                          replace V86 := V86.trans V88 (by intro b hb; first | exact hb.elim | omega | (simp at hb ⊢; omega))
                                                          replace hF := V88.fz
                                                          replace k27 := k27.ch V88.ch (by exact fun h => h)
                                                          replace k29 := k29.ch V88.ch (by exact fun h => h)
                                                          replace kC := kC.ch V88.ch (by first | exact fun h => h | exact fun _ h => h.elim | exact fun _ _ h => h)
                                                          replace U := U.cc V88.ch (by intro b hb; first | exact hb.elim | omega | (simp at hb ⊢; omega))
                                                          refine hK88 _ _ ?_
                                                          refine c_cond (et g0 rfl) (fun cB8 => ?_) (fun cB8 => ?_)
                                                          · skip
                                                            
                                                            obtain ⟨hfl2, heq8⟩ := hb9.1 cB8
                                                            have heq9 := heq8 hfl2
                                                            refine c_skip ?_
                                                            refine hK87 _ _ ?_
                                                            refine fg5 0 6 10 13 14 (gS rfl (gS rfl (gS rfl (gS rfl (gS rfl g0))))) (gS rfl (gS rfl (gS rfl (gS rfl g0)))) (gS rfl (gS rfl (gS rfl g0))) (gS rfl (gS rfl g0)) (gS rfl g0) (fun g => ?_)
                                                            refine c_block (fun Q90 hQ90 => ?_)
                                                            exact (by
                                                              refine c_region ?_
                                                              refine l_step (y_moveV (et g0 rfl)) ?_
                                                              refine l_step (y_add (et g0 rfl) rfl (addIN (y := 1) ?_)) ?_
                                                              omega
                                                              refine l_step (y_assignV (et g0 rfl)) ?_
                                                              refine l_nil ?_
                                                              refine hQ90 _ _ _ (in_normal ?_)
                                                              refine fK5 0 6 10 13 14 (gS rfl (gS rfl (gS rfl (gS rfl (gS rfl (gS rfl (gS rfl g0))))))) (gS rfl (gS rfl (gS rfl (gS rfl (gS rfl (gS rfl g0)))))) (gS rfl (gS rfl (gS rfl (gS rfl (gS rfl g0))))) (gS rfl (gS rfl (gS rfl (gS rfl g0)))) g0 (fun g => ?_)
                                                              exact hK86 (S9.length - (f + ((n + 1)))) _ _ (by omega) ⟨g, _, (n + 1), rfl, rfl, by omega, take_rank hfl2 hgr heq9, V86⟩)
                                                          · skip
                                                            
                                                            have hne9 : ∀ y, S9[f + n]? = some y → y.rank ≠ S9[f].rank := fun y hy he => by
                                                              obtain ⟨hq, e9⟩ := List.getElem?_eq_some_iff.1 hy
                                                              rw [← e9] at he
                                                              have := hb9.2 ⟨hq, fun _ => he⟩
                                                              rw [cB8] at this
                                                              cases this
                                                            have hn9 : 0 < n := by
                                                              rcases Nat.eq_zero_or_pos n with h0 | h0
                                                              · subst h0
                                                                exact absurd rfl (hne9 _ (List.getElem?_eq_getElem hfl))
                                                              · exact h0
                                                            refine c_exit ?_
                                                            refine hQ85 _ _ _ (in_exit ?_)
                                                            refine hK84 _ _ ?_
                                                            refine fg5 0 6 10 13 14 (gS rfl (gS rfl (gS rfl (gS rfl (gS rfl g0))))) (gS rfl (gS rfl (gS rfl (gS rfl g0)))) (gS rfl (gS rfl (gS rfl g0))) (gS rfl (gS rfl g0)) (gS rfl g0) (fun g => ?_)
                                                            refine c_seq (fun K91 hK91 => ?_)
                                                            exact (by
                                                              refine c_region ?_
                                                              refine l_step (y_moveV (et g0 rfl)) ?_
                                                              refine l_eff (e_make Hvaa.underlying111 sz_117 zr_117 by_117 (et g0 rfl) (et g0 rfl) (by omega) (by omega)) (fun v92 w92 h92 => ?_)
                                                              obtain ⟨b92, rfl, n92⟩ := h92
                                                              have d27_92 : b27 < b92 := Nat.lt_of_lt_of_le k27.lt n92.fresh
                                                              have d29_92 : b29 < b92 := Nat.lt_of_lt_of_le k29.lt n92.fresh
                                                              have f92 : w.heap.size ≤ b92 := Nat.le_trans U.size n92.fresh
                                                              have nb92 := hF.nb n92.fresh
                                                              have fV78_92 := Nat.le_trans V78.ch.size n92.fresh
                                                              replace G := G.tr (Go.ofUp hF n92.up)
                                                              replace V78 := V78.tr (Go.ofUp hF n92.up)
                                                              replace hF := hF.up n92.up
                                                              replace k27 := k27.up n92.up
                                                              replace k29 := k29.up n92.up
                                                              replace kC := kC.up n92.up
                                                              replace U := U.tr n92.up
                                                              have k92 := n92.blk
                                                              obtain ⟨D15, hD15, kD15⟩ := RA.oslot (H := Hk88) k92
                                                              replace k92 := kD15
                                                              refine l_step (y_assignV (et g0 rfl)) ?_
                                                              refine l_nil ?_
                                                              refine hK91 _ _ ?_
                                                              refine fg6 0 6 10 13 14 15 (gS rfl (gS rfl (gS rfl (gS rfl (gS rfl (gS rfl (gS rfl g0))))))) (gS rfl (gS rfl (gS rfl (gS rfl (gS rfl (gS rfl g0)))))) (gS rfl (gS rfl (gS rfl (gS rfl (gS rfl g0))))) (gS rfl (gS rfl (gS rfl (gS rfl g0)))) (gS rfl (gS rfl (gS rfl g0))) g0 (fun g => ?_)
                                                              refine c_seq (fun K93 hK93 => ?_)
                                                              refine c_seq (fun K94 hK94 => ?_)
                                                              exact (by
                                                                refine c_region ?_
                                                                refine l_step (y_moveV (et g0 rfl)) ?_
                                                                refine l_step (y_len Hvaa.underlying111 (et g0 rfl)) ?_
                                                                refine l_step y_moveC ?_
                                                                refine l_nil ?_
                                                                refine hK94 _ _ ?_
                                                                refine fg8 0 6 10 13 14 15 205 206 (gS rfl (gS rfl (gS rfl (gS rfl (gS rfl (gS rfl (gS rfl (gS rfl g0)))))))) (gS rfl (gS rfl (gS rfl (gS rfl (gS rfl (gS rfl (gS rfl g0))))))) (gS rfl (gS rfl (gS rfl (gS rfl (gS rfl (gS rfl g0)))))) (gS rfl (gS rfl (gS rfl (gS rfl (gS rfl g0))))) (gS rfl (gS rfl (gS rfl (gS rfl g0)))) (gS rfl (gS rfl (gS rfl g0))) (gS rfl g0) g0 (fun g => ?_)
                                                                refine c_block (fun Q95 hQ95 => ?_)
                                                                refine fg8 0 6 10 13 14 15 205 206 (gS rfl (gS rfl (gS rfl (gS rfl (gS rfl (gS rfl (gS rfl g0))))))) (gS rfl (gS rfl (gS rfl (gS rfl (gS rfl (gS rfl g0)))))) (gS rfl (gS rfl (gS rfl (gS rfl (gS rfl g0))))) (gS rfl (gS rfl (gS rfl (gS rfl g0)))) (gS rfl (gS rfl (gS rfl g0))) (gS rfl (gS rfl g0)) (gS rfl g0) g0 (fun g => ?_)
                                                                refine c_loop (fun k_ s_ W96 => ∃ (g : Nat → Value) (Hk96 : Store) (C15 : Array Value) (i : Nat), s_ = (upd (upd (upd (upd (upd (upd (upd (upd g 0 (.pointer (some ⟨bc, 2435, none⟩))) 6 (.slice (some ⟨b29, 0, none⟩) K9.length K9.length)) 10 (.slice sa9 S9.length sc9)) 13 (.int .i64 (f : Nat))) 14 (.int .i64 (n : Nat))) 15 (.slice (some ⟨b92, 0, none⟩) n n)) 205 (.int .i64 (n : Nat))) 206 (.int .i64 (i : Nat))) ∧ n - i = k_ ∧ (i ≤ n) ∧ (RA P_oslot 64 Hk96 C15 (g6 V.slots S9 f n i)) ∧ Blk W96 b92 (C15) ∧ Go (fun k => k = b92) w92 Hk88 W96 Hk96) (n - (0)) ?_ ?_
                                                                · exact ⟨g, _, _, 0, rfl, rfl, Nat.zero_le _, by rw [g6_zero]; exact hD15, k92, Go.refl hF⟩
                                                                · skip
                                                                  intro k_ s_ W96 hI K96 hK96
                                                                  obtain ⟨g, Hk96, C15, i, rfl, rfl, hi9, h15, nk92, V96⟩ := hI
                                                                  have hle96 := V96.le
                                                                  replace nb27 := V96.nb nb27 k27.lt
                                                                  replace nb29 := V96.nb nb29 k29.lt
                                                                  replace nb92 := V96.nb nb92 k92.lt
                                                                  replace lvz25 := lvz25.mono hle96
                                                                  replace hKL := hKL.mono hle96
                                                                  replace lvz74 := lvz74.mono hle96
                                                                  replace hSL := hSL.mono hle96
                                                                  replace h6 := h6.mono hle96
                                                                  replace hL0 := hL0.trans hle96
                                                                  replace G := G.trans V96 (by intro b hb; first | exact hb.elim | omega | (simp at hb ⊢; omega))
                                                                  replace V78 := V78.trans V96 (by intro b hb; first | exact hb.elim | omega | (simp at hb ⊢; omega))
                                                                  replace hF := V96.fz
                                                                  replace k27 := k27.ch V96.ch (by omega)
                                                                  replace k29 := k29.ch V96.ch (by omega)
                                                                  replace kC := kC.ch V96.ch (by first | omega | exact hOo.ne (by omega))
                                                                  replace k92 := nk92
                                                                  replace U := U.cc V96.ch (by intro b hb; first | exact hb.elim | omega | (simp at hb ⊢; omega))
                                                                  refine c_seq (fun K97 hK97 => ?_)
                                                                  exact (by
                                                                    refine c_region ?_
                                                                    refine l_step (y_lss (et g0 rfl) (et (gS rfl g0) rfl)) ?_
                                                                    refine l_nil ?_
                                                                    refine hK97 _ _ ?_
                                                                    refine c_seq (fun K98 hK98 => ?_)
                                                                    refine c_cond (et g0 rfl) (fun cB9 => ?_) (fun cB9 => ?_)
                                                                    · skip
                                                                      
                                                                      have hil : i < n := by have := of_decide_eq_true cB9; omega
                                                                      refine c_skip ?_
                                                                      refine hK98 _ _ ?_
                                                                      refine fg8 0 6 10 13 14 15 205 206 (gS rfl (gS rfl (gS rfl (gS rfl (gS rfl (gS rfl (gS rfl (gS rfl g0)))))))) (gS rfl (gS rfl (gS rfl (gS rfl (gS rfl (gS rfl (gS rfl g0))))))) (gS rfl (gS rfl (gS rfl (gS rfl (gS rfl (gS rfl g0)))))) (gS rfl (gS rfl (gS rfl (gS rfl (gS rfl g0))))) (gS rfl (gS rfl (gS rfl (gS rfl g0)))) (gS rfl (gS rfl (gS rfl g0))) (gS rfl (gS rfl g0)) (gS rfl g0) (fun g => ?_)
                                                                      refine c_seq (fun K100 hK100 => ?_)
                                                                      refine c_block (fun Q101 hQ101 => ?_)
                                                                      refine c_seq (fun K102 hK102 => ?_)
                                                                      exact (by
                                                                        refine c_region ?_
                                                                        refine l_step (y_moveV (et g0 rfl)) ?_
                                                                        refine l_step (y_assignV (et g0 rfl)) ?_
                                                                        refine l_nil ?_
                                                                        refine hK102 _ _ ?_
                                                                        refine fg9 0 6 10 13 14 15 205 206 16 (gS rfl (gS rfl (gS rfl (gS rfl (gS rfl (gS rfl (gS rfl (gS rfl (gS rfl g0))))))))) (gS rfl (gS rfl (gS rfl (gS rfl (gS rfl (gS rfl (gS rfl (gS rfl g0)))))))) (gS rfl (gS rfl (gS rfl (gS rfl (gS rfl (gS rfl (gS rfl g0))))))) (gS rfl (gS rfl (gS rfl (gS rfl (gS rfl (gS rfl g0)))))) (gS rfl (gS rfl (gS rfl (gS rfl (gS rfl g0))))) (gS rfl (gS rfl (gS rfl (gS rfl g0)))) (gS rfl (gS rfl (gS rfl g0))) (gS rfl (gS rfl g0)) g0 (fun g => ?_)
                                                                        refine c_seq (fun K103 hK103 => ?_)
                                                                        exact (by
                                                                          refine c_draw Up 13 [(0, true), (1, true), (2, true), (3, true), (4, true), (5, true), (6, true), (7, true), (8, true), (9, true), (10, true), (11, true), (12, true)] (by kernel_rfl) (fun w104 hu => ⟨Up.refl _, ?_⟩)
                                                                          replace G := G.tr (Go.ofUp hF hu)
                                                                          replace V78 := V78.tr (Go.ofUp hF hu)
                                                                          replace V96 := V96.tr (Go.ofUp hF hu)
                                                                          replace hF := hF.up hu
                                                                          replace k27 := k27.up hu
                                                                          replace k29 := k29.up hu
                                                                          replace k92 := k92.up hu
                                                                          replace kC := kC.up hu
                                                                          replace U := U.tr hu
                                                                          have SU := Up.refl w104
                                                                          refine p_step (by exact rfl) (y_moveV (et (gS rfl (gS rfl (gS rfl (gS rfl (gS rfl (gS rfl (gS rfl (gS rfl g0)))))))) rfl)) ?_
                                                                          refine p_step (by exact rfl) (y_nil (et g0 rfl)) ?_
                                                                          refine p_step (by exact rfl) (y_fld fld_84_1 (et g0 rfl)) ?_
                                                                          refine p_step (by exact rfl) (y_load1 one_77 (et g0 rfl) (atS (kC.cell h36))) ?_
                                                                          refine p_step (by exact rfl) (y_moveV (et (gS rfl (gS rfl (gS rfl (gS rfl (gS rfl (gS rfl (gS rfl (gS rfl (gS rfl (gS rfl g0)))))))))) rfl)) ?_
                                                                          refine p_step (by exact rfl) (y_moveV (et (gS rfl (gS rfl (gS rfl (gS rfl (gS rfl (gS rfl (gS rfl (gS rfl (gS rfl (gS rfl g0)))))))))) rfl)) ?_
                                                                          refine p_step (by exact rfl) (y_moveV (et (gS rfl (gS rfl (gS rfl (gS rfl (gS rfl (gS rfl g0)))))) rfl)) ?_
                                                                          refine p_step (by exact rfl) (y_add (et (gS rfl g0) rfl) (et g0 rfl) (addIN ?_)) ?_
                                                                          omega
                                                                          obtain ⟨bk, ok, Ck, rk, hka, hBk, hRk, hkl, hke, hkok⟩ := hSL.rowH (i := f + i) (by omega)
                                                                          rw [hke] at hRk hkl
                                                                          have hkr := hBk.row hF hRk
                                                                          obtain ⟨y9, hy9, hyr9, hke9⟩ := mS _ (List.getElem_mem (show f + i < S9.length by omega))
                                                                          have hpl : S9[f + i].pl < V.slots.length := (List.getElem?_eq_some_iff.1 hy9).1
                                                                          have hye : V.slots[S9[f + i].pl] = y9 := (List.getElem?_eq_some_iff.1 hy9).2
                                                                          obtain ⟨bq, oq, Cq, rq, ha4, hBq, hRq, hrl4, hr4, hok4⟩ := (hS.mono hL0).rowH (i := S9[f + i].pl) hpl
                                                                          rw [hye] at hr4 hok4
                                                                          rw [hr4] at hRq hrl4
                                                                          refine p_step (by exact rfl) (y_idxSa hka Hvaa.underlying165 sz_170 (et (gS rfl (gS rfl (gS rfl g0))) rfl) (et g0 rfl) ?_) ?_
                                                                          omega
                                                                          exact (by
                                                                            refine p_step (by exact rfl) (y_fld fld_170_2 (et g0 rfl)) ?_
                                                                            refine p_step (by exact rfl) (y_load1 one_21 (et g0 rfl) (atS ((hBk.row hF hRk).c1 (j := 5) (show _ = some (Value.int .i32 (S9[f + i].pl : Nat)) from rfl) (by omega)))) ?_
                                                                            refine p_step (by exact rfl) (y_idxSa ha4 Hvaa.underlying77 sz_176 (et (gS rfl (gS rfl (gS rfl (gS rfl (gS rfl (gS rfl (gS rfl g0))))))) rfl) (et g0 rfl) ?_) ?_
                                                                            omega
                                                                            refine p_step (by exact rfl) (y_assignV (et g0 rfl)) ?_
                                                                            refine p_nil ?_
                                                                            refine hK103 _ _ ?_
                                                                            refine fg10 0 6 10 13 14 15 205 206 16 17 (gS rfl (gS rfl (gS rfl (gS rfl (gS rfl (gS rfl (gS rfl (gS rfl (gS rfl (gS rfl (gS rfl (gS rfl (gS rfl (gS rfl (gS rfl (gS rfl (gS rfl (gS rfl (gS rfl (gS rfl (gS rfl g0))))))))))))))))))))) (gS rfl (gS rfl (gS rfl (gS rfl (gS rfl (gS rfl (gS rfl (gS rfl (gS rfl (gS rfl (gS rfl (gS rfl (gS rfl (gS rfl (gS rfl (gS rfl (gS rfl (gS rfl (gS rfl (gS rfl g0)))))))))))))))))))) (gS rfl (gS rfl (gS rfl (gS rfl (gS rfl (gS rfl (gS rfl (gS rfl (gS rfl (gS rfl (gS rfl (gS rfl (gS rfl (gS rfl (gS rfl (gS rfl (gS rfl (gS rfl (gS rfl g0))))))))))))))))))) (gS rfl (gS rfl (gS rfl (gS rfl (gS rfl (gS rfl (gS rfl (gS rfl (gS rfl (gS rfl (gS rfl (gS rfl (gS rfl (gS rfl (gS rfl (gS rfl (gS rfl (gS rfl g0)))))))))))))))))) (gS rfl (gS rfl (gS rfl (gS rfl (gS rfl (gS rfl (gS rfl (gS rfl (gS rfl (gS rfl (gS rfl (gS rfl (gS rfl (gS rfl (gS rfl (gS rfl (gS rfl g0))))))))))))))))) (gS rfl (gS rfl (gS rfl (gS rfl (gS rfl (gS rfl (gS rfl (gS rfl (gS rfl (gS rfl (gS rfl (gS rfl (gS rfl (gS rfl (gS rfl (gS rfl g0)))))))))))))))) (gS rfl (gS rfl (gS rfl (gS rfl (gS rfl (gS rfl (gS rfl (gS rfl (gS rfl (gS rfl (gS rfl (gS rfl (gS rfl (gS rfl (gS rfl g0))))))))))))))) (gS rfl (gS rfl (gS rfl (gS rfl (gS rfl (gS rfl (gS rfl (gS rfl (gS rfl (gS rfl (gS rfl (gS rfl (gS rfl (gS rfl g0)))))))))))))) (gS rfl (gS rfl (gS rfl (gS rfl (gS rfl (gS rfl (gS rfl (gS rfl (gS rfl (gS rfl (gS rfl (gS rfl (gS rfl g0))))))))))))) g0 (fun g => ?_)
                                                                            refine c_draw Up 14 [(0, true), (1, true), (2, true), (3, true), (4, true), (5, true), (7, true), (8, true), (9, true), (10, true), (6, false), (11, false), (12, true), (13, true), (14, false)] (by kernel_rfl) (fun w105 hu => ⟨Up.refl _, ?_⟩)
                                                                            replace G := G.tr (Go.ofUp hF hu)
                                                                            replace V78 := V78.tr (Go.ofUp hF hu)
                                                                            replace V96 := V96.tr (Go.ofUp hF hu)
                                                                            replace hF := hF.up hu
                                                                            replace k27 := k27.up hu
                                                                            replace k29 := k29.up hu
                                                                            replace k92 := k92.up hu
                                                                            replace kC := kC.up hu
                                                                            replace U := U.tr hu
                                                                            have SU := Up.refl w105
                                                                            refine p_step (by exact rfl) (y_moveV (et (gS rfl (gS rfl (gS rfl (gS rfl g0)))) rfl)) ?_
                                                                            refine p_step (by exact rfl) (y_moveV (et (gS rfl (gS rfl g0)) rfl)) ?_
                                                                            refine p_step (by exact rfl) (y_moveV (et (gS rfl (gS rfl g0)) rfl)) ?_
                                                                            refine p_step (by exact rfl) (y_nil (et g0 rfl)) ?_
                                                                            refine p_step (by exact rfl) (y_fld fld_176_1 (et g0 rfl)) ?_
                                                                            refine p_step (by exact rfl) (y_loadR agg_65 sz_65 (et g0 rfl) rfl (atSR (esC_key (hBq.row hF hRq) (by omega)))) ?_
                                                                            refine p_step (by exact rfl) (y_moveV (et (gS rfl (gS rfl (gS rfl (gS rfl (gS rfl (gS rfl g0)))))) rfl)) ?_
                                                                            refine p_step (by exact rfl) (y_nil (et g0 rfl)) ?_
                                                                            refine p_step (by exact rfl) (y_fld fld_176_2 (et g0 rfl)) ?_
                                                                            refine p_step (by exact rfl) (y_loadR agg_65 sz_65 (et g0 rfl) rfl (atSR (esC_val (hBq.row hF hRq) (by omega)))) ?_
                                                                            refine p_eff (by exact rfl) (e_callV cal_76 (aC (et (gS rfl (gS rfl (gS rfl (gS rfl g0)))) rfl) aN) (wBE32_spec _ _)) (fun v106 w106 h106 => ?_)
                                                                            obtain ⟨rfl, u106⟩ := h106
                                                                            replace G := G.tr (Go.ofUp hF u106)
                                                                            replace V78 := V78.tr (Go.ofUp hF u106)
                                                                            replace V96 := V96.tr (Go.ofUp hF u106)
                                                                            replace hF := hF.up u106
                                                                            replace k27 := k27.up u106
                                                                            replace k29 := k29.up u106
                                                                            replace k92 := k92.up u106
                                                                            replace kC := kC.up u106
                                                                            replace U := U.tr u106
                                                                            refine ⟨.inr (SU.tr u106), ?_⟩
                                                                            replace SU := SU.tr u106
                                                                            exact (by
                                                                              refine p_eff (by exact rfl) (e_callV cal_76 (aC (et (gS rfl g0) rfl) aN) (wBE32_spec _ _)) (fun v107 w107 h107 => ?_)
                                                                              obtain ⟨rfl, u107⟩ := h107
                                                                              replace G := G.tr (Go.ofUp hF u107)
                                                                              replace V78 := V78.tr (Go.ofUp hF u107)
                                                                              replace V96 := V96.tr (Go.ofUp hF u107)
                                                                              replace hF := hF.up u107
                                                                              replace k27 := k27.up u107
                                                                              replace k29 := k29.up u107
                                                                              replace k92 := k92.up u107
                                                                              replace kC := kC.up u107
                                                                              replace U := U.tr u107
                                                                              refine ⟨.inr (SU.tr u107), ?_⟩
                                                                              replace SU := SU.tr u107
                                                                              have hb108 : ∀ w, (Instr.build 117 ([(0, (Value.agg (bL (be 32 y9.key)).toArray)), (1, (Value.agg (bL (be 32 y9.val)).toArray))] : List (Nat × Value)).toArray).run Hvaa.prog w = .ok (.agg ([(bL (be 32 y9.key)), (bL (be 32 y9.val))] : List (List Value)).flatten.toArray) w := bld_run zr_117 plc_117 (fill_flat (off := 0) (k := 32) (f := (List.replicate 32 (.int .u8 0))) (c := bL (be 32 y9.key)) (v := (Value.agg (bL (be 32 y9.key)).toArray)) rfl rfl (by first | (simp [length_bL, length_be, length_uL]; done) | rfl) (by first | rfl | (simp [length_bL, length_be, length_uL]; done)) rfl (by first | (simp [length_bL, length_be, length_uL]; done) | rfl) (fill_flat (off := 32) (k := 32) (f := (List.replicate 32 (.int .u8 0))) (c := bL (be 32 y9.val)) (v := (Value.agg (bL (be 32 y9.val)).toArray)) rfl rfl (by first | (simp [length_bL, length_be, length_uL]; done) | rfl) (by first | (simp [length_bL, length_be, length_uL]; done) | rfl) rfl (by first | (simp [length_bL, length_be, length_uL]; done) | rfl) (fill_nil _ _)))
                                                                              refine p_step (by exact rfl) ((y_bld (bC (et (gS rfl g0) rfl) (bC (et g0 rfl) bN)) hb108).to (congrArg (fun l : List Value => Value.agg l.toArray) (show _ = (bL (be 32 y9.key) ++ bL (be 32 y9.val)) by simp))) ?_
                                                                              refine p_step (by exact rfl) (y_idxS Hvaa.underlying111 sz_117 (et (gS rfl (gS rfl (gS rfl (gS rfl (gS rfl (gS rfl (gS rfl (gS rfl (gS rfl (gS rfl (gS rfl (gS rfl g0)))))))))))) rfl) (et (gS rfl (gS rfl (gS rfl (gS rfl (gS rfl (gS rfl (gS rfl (gS rfl (gS rfl (gS rfl (gS rfl g0))))))))))) rfl) ?_ ?_) ?_
                                                                              omega
                                                                              omega
                                                                              refine p_effN (by exact rfl) (e_store sz_117 (et g0 rfl) (cellsV (et (gS rfl g0) rfl) rfl) os_len (by exact os_one) k92 (by (rw [h15.size, g6_len hfn (by omega)]; (try rw [os_len]); simp only [Int.toNat_natCast, Nat.zero_add]; exact mul_in hil))) (fun v109 w109 h109 => ?_)
                                                                              obtain ⟨rfl, x109⟩ := h109
                                                                              replace k27 := k27.ch x109.ch (by omega)
                                                                              replace k29 := k29.ch x109.ch (by omega)
                                                                              replace kC := kC.ch x109.ch (by first | omega | (first | omega | exact hOo.ne (by omega)))
                                                                              replace k92 := x109.blk
                                                                              replace G := G.wr x109 (by first | exact .inr f92 | exact .inl rfl | omega | (simp; omega)) nb92
                                                                              replace V78 := V78.wr x109 (by first | exact .inr f92 | exact .inl rfl | omega | (simp; omega)) nb92
                                                                              replace V96 := V96.wr x109 (by first | exact .inr f92 | exact .inl rfl | omega | (simp; omega)) nb92
                                                                              replace hF := G.fz
                                                                              replace U := U.st x109 f92
                                                                              refine ⟨.inl rfl, ?_⟩
                                                                              rw [Int.toNat_natCast] at k92
                                                                              refine p_nil ?_
                                                                              refine hQ101 _ _ _ (in_normal ?_)
                                                                              refine hK100 _ _ ?_
                                                                              refine fg8 0 6 10 13 14 15 205 206 (gS rfl (gS rfl (gS rfl (gS rfl (gS rfl (gS rfl (gS rfl (gS rfl (gS rfl (gS rfl (gS rfl (gS rfl (gS rfl (gS rfl (gS rfl (gS rfl (gS rfl (gS rfl (gS rfl (gS rfl (gS rfl (gS rfl (gS rfl g0))))))))))))))))))))))) (gS rfl (gS rfl (gS rfl (gS rfl (gS rfl (gS rfl (gS rfl (gS rfl (gS rfl (gS rfl (gS rfl (gS rfl (gS rfl (gS rfl (gS rfl (gS rfl (gS rfl (gS rfl (gS rfl (gS rfl (gS rfl (gS rfl g0)))))))))))))))))))))) (gS rfl (gS rfl (gS rfl (gS rfl (gS rfl (gS rfl (gS rfl (gS rfl (gS rfl (gS rfl (gS rfl (gS rfl (gS rfl (gS rfl (gS rfl (gS rfl (gS rfl (gS rfl (gS rfl (gS rfl (gS rfl g0))))))))))))))))))))) (gS rfl (gS rfl (gS rfl (gS rfl (gS rfl (gS rfl (gS rfl (gS rfl (gS rfl (gS rfl (gS rfl (gS rfl (gS rfl (gS rfl (gS rfl (gS rfl (gS rfl (gS rfl (gS rfl (gS rfl g0)))))))))))))))))))) (gS rfl (gS rfl (gS rfl (gS rfl (gS rfl (gS rfl (gS rfl (gS rfl (gS rfl (gS rfl (gS rfl (gS rfl (gS rfl (gS rfl (gS rfl (gS rfl (gS rfl (gS rfl (gS rfl g0))))))))))))))))))) (gS rfl (gS rfl (gS rfl (gS rfl (gS rfl (gS rfl (gS rfl (gS rfl (gS rfl (gS rfl (gS rfl (gS rfl (gS rfl (gS rfl (gS rfl (gS rfl (gS rfl (gS rfl g0)))))))))))))))))) (gS rfl (gS rfl (gS rfl (gS rfl (gS rfl (gS rfl (gS rfl (gS rfl (gS rfl (gS rfl (gS rfl (gS rfl (gS rfl (gS rfl (gS rfl (gS rfl (gS rfl g0))))))))))))))))) (gS rfl (gS rfl (gS rfl (gS rfl (gS rfl (gS rfl (gS rfl (gS rfl (gS rfl (gS rfl (gS rfl (gS rfl (gS rfl (gS rfl (gS rfl (gS rfl g0)))))))))))))))) (fun g => ?_)
                                                                              refine c_region ?_
                                                                              exact (by
                                                                                refine l_step (y_add (et g0 rfl) rfl (addIN (y := 1) ?_)) ?_
                                                                                omega
                                                                                refine l_step (y_moveV (et g0 rfl)) ?_
                                                                                refine l_nil ?_
                                                                                refine fK8 0 6 10 13 14 15 205 206 (gS rfl (gS rfl (gS rfl (gS rfl (gS rfl (gS rfl (gS rfl (gS rfl (gS rfl g0))))))))) (gS rfl (gS rfl (gS rfl (gS rfl (gS rfl (gS rfl (gS rfl (gS rfl g0)))))))) (gS rfl (gS rfl (gS rfl (gS rfl (gS rfl (gS rfl (gS rfl g0))))))) (gS rfl (gS rfl (gS rfl (gS rfl (gS rfl (gS rfl g0)))))) (gS rfl (gS rfl (gS rfl (gS rfl (gS rfl g0))))) (gS rfl (gS rfl (gS rfl (gS rfl g0)))) (gS rfl (gS rfl (gS rfl g0))) g0 (fun g => ?_)
                                                                                exact hK96 (n - ((i + 1))) _ _ (by omega) ⟨g, _, _, (i + 1), rfl, rfl, by omega, by rw [← g6_set hfn hil, kvS_eq hy9]; exact h15.put (by rw [g6_len hfn (by omega)]; exact hil) os_len ⟨rfl, hok4.key, hok4.val⟩, k92, V96⟩)))))
                                                                    · skip
                                                                      
                                                                      have hie : n = i := by have := of_decide_eq_false cB9; omega
                                                                      subst hie
                                                                      rw [g6_all] at h15
                                                                      obtain ⟨Hz110, Gz110, hlz110, hez110, hnz110⟩ := G.hold' k92 f92
                                                                      replace G := Gz110
                                                                      replace hF := G.fz
                                                                      replace V78 := V78.ext G.fz hlz110 hnz110 fV78_92
                                                                      replace lvz25 := lvz25.mono hlz110
                                                                      replace hKL := hKL.mono hlz110
                                                                      replace lvz74 := lvz74.mono hlz110
                                                                      replace hSL := hSL.mono hlz110
                                                                      replace h6 := h6.mono hlz110
                                                                      replace h15 := h15.mono hlz110
                                                                      replace hL0 := hL0.trans hlz110
                                                                      replace nb27 := fun hh => (hnz110 _ hh).elim nb27 (by omega)
                                                                      replace nb29 := fun hh => (hnz110 _ hh).elim nb29 (by omega)
                                                                      have hlv15 := h15.lv' (n := n) hez110 (by rw [List.length_map, List.length_take, List.length_drop]; omega) (by omega)
                                                                      refine c_exit ?_
                                                                      refine hQ95 _ _ _ (in_exit ?_)
                                                                      refine hK93 _ _ ?_
                                                                      refine fg6 0 6 10 13 14 15 (gS rfl (gS rfl (gS rfl (gS rfl (gS rfl (gS rfl (gS rfl (gS rfl g0)))))))) (gS rfl (gS rfl (gS rfl (gS rfl (gS rfl (gS rfl (gS rfl g0))))))) (gS rfl (gS rfl (gS rfl (gS rfl (gS rfl (gS rfl g0)))))) (gS rfl (gS rfl (gS rfl (gS rfl (gS rfl g0))))) (gS rfl (gS rfl (gS rfl (gS rfl g0)))) (gS rfl (gS rfl (gS rfl g0))) (fun g => ?_)
                                                                      refine c_seq (fun K111 hK111 => ?_)
                                                                      exact (by
                                                                        refine c_region ?_
                                                                        refine l_step (y_moveV (et (gS rfl (gS rfl (gS rfl (gS rfl g0)))) rfl)) ?_
                                                                        refine l_step (y_moveV (et (gS rfl (gS rfl (gS rfl (gS rfl g0)))) rfl)) ?_
                                                                        refine l_step (y_moveV (et (gS rfl (gS rfl (gS rfl (gS rfl g0)))) rfl)) ?_
                                                                        obtain ⟨bk5, ok5, Ck5, rk5, hka5, hBk5, hRk5, hkl5, hke5, hkok5⟩ := hSL.rowH (i := f) hfl
                                                                        rw [hke5] at hRk5 hkl5
                                                                        have hkr5 := hBk5.row hF hRk5
                                                                        obtain ⟨y5, hy5, hyr5, hke55⟩ := mS _ (List.getElem_mem hfl)
                                                                        have e5 : S9[f].rank = rkF K9 K9.length y5.acct := congrArg SK.rank hke55
                                                                        obtain ⟨q5, hq5⟩ : ∃ q, S9[f].rank = q + 1 := ⟨S9[f].rank - 1, by have := hyr5.1; omega⟩
                                                                        obtain ⟨hq7, _⟩ := rkF_of (K := K9) (i := y5.acct) (q := q5) K9.length (by omega)
                                                                        refine l_step (y_idxSa hka5 Hvaa.underlying165 sz_170 (et (gS rfl g0) rfl) (et g0 rfl) ?_) ?_
                                                                        omega
                                                                        refine l_step (y_fld fld_170_0 (et g0 rfl)) ?_
                                                                        refine l_step (y_load1 one_21 (et g0 rfl) (at1 ((hBk5.row hF hRk5).c1 (j := 0) (show _ = some (Value.int .i32 (S9[f].rank : Nat)) from rfl) (by omega)))) ?_
                                                                        refine l_step (y_sub (et g0 rfl) rfl (dec32 ?_ ?_)) ?_
                                                                        omega
                                                                        omega
                                                                        refine l_step (y_moveV (et (gS rfl (gS rfl (gS rfl (gS rfl (gS rfl (gS rfl (gS rfl g0))))))) rfl)) ?_
                                                                        refine l_step (y_idxS Hvaa.underlying23 sz_113 (et (gS rfl (gS rfl (gS rfl (gS rfl (gS rfl (gS rfl (gS rfl g0))))))) rfl) (et (gS rfl g0) rfl) ?_ ?_) ?_
                                                                        omega
                                                                        omega
                                                                        refine l_step (y_fld fld_113_4 (et g0 rfl)) ?_
                                                                        refine l_effN (e_store sz_111 (et g0 rfl) (cellsV (et (gS rfl (gS rfl g0)) rfl) rfl) rfl (by first | exact one_bL _ | exact one_uL _ | (intro v hv; simp at hv; subst hv; rfl)) k29 (by (have h9 := mul_in (k := 55) hq7; have h8 : S9[f].rank - 1 = q5 := (by omega); rw [h6.size, wL2_len]; simp only [Int.toNat_natCast, Nat.zero_add, List.length_cons, List.length_nil, h8]; omega))) (fun v112 w112 h112 => ?_)
                                                                        obtain ⟨rfl, x112⟩ := h112
                                                                        replace k27 := k27.ch x112.ch (by omega)
                                                                        replace kC := kC.ch x112.ch (by first | omega | (first | omega | exact hOo.ne (by omega)))
                                                                        replace k29 := x112.blk
                                                                        replace G := G.wr x112 (by first | exact .inr f29 | exact .inl rfl | omega | (simp; omega)) nb29
                                                                        replace V78 := V78.wr x112 (by first | exact .inr f29 | exact .inl rfl | omega | (simp; omega)) nb29
                                                                        replace hF := G.fz
                                                                        replace U := U.st x112 f29
                                                                        have hq8 : S9[f].rank - 1 = q5 := by omega
                                                                        rw [Int.toNat_natCast, hq8] at k29
                                                                        have h6n := h6.sto (wL2_get (List.getElem?_eq_getElem hq7)) hlv15
                                                                        have e6 := wL2_set (l := V.accts) (sl := V.slots) hq7 hn9 hfn hct (fun x hx => by rw [hgr x hx]; exact hq5) (wL2_get (List.getElem?_eq_getElem hq7))
                                                                        replace h6n := e6 ▸ h6n
                                                                        refine l_nil ?_
                                                                        refine hK111 _ _ ?_
                                                                        refine fg5 0 6 10 13 14 (gS rfl (gS rfl (gS rfl (gS rfl (gS rfl (gS rfl (gS rfl (gS rfl (gS rfl (gS rfl (gS rfl (gS rfl (gS rfl (gS rfl (gS rfl g0))))))))))))))) (gS rfl (gS rfl (gS rfl (gS rfl (gS rfl (gS rfl (gS rfl (gS rfl (gS rfl (gS rfl (gS rfl (gS rfl (gS rfl (gS rfl g0)))))))))))))) (gS rfl (gS rfl (gS rfl (gS rfl (gS rfl (gS rfl (gS rfl (gS rfl (gS rfl (gS rfl (gS rfl (gS rfl (gS rfl g0))))))))))))) (gS rfl (gS rfl (gS rfl (gS rfl (gS rfl (gS rfl (gS rfl (gS rfl (gS rfl (gS rfl (gS rfl (gS rfl g0)))))))))))) (gS rfl (gS rfl (gS rfl (gS rfl (gS rfl (gS rfl (gS rfl (gS rfl (gS rfl (gS rfl (gS rfl g0))))))))))) (fun g => ?_)
                                                                        refine c_region ?_
                                                                        exact (by
                                                                          refine l_step (y_moveV (et (gS rfl g0) rfl)) ?_
                                                                          refine l_step (y_moveV (et (gS rfl g0) rfl)) ?_
                                                                          refine l_step (y_add (et (gS rfl g0) rfl) (et g0 rfl) (addIN ?_)) ?_
                                                                          omega
                                                                          refine l_step (y_assignV (et g0 rfl)) ?_
                                                                          refine l_nil ?_
                                                                          refine hQ82 _ _ _ (in_normal ?_)
                                                                          refine fK4 0 6 10 13 (gS rfl (gS rfl (gS rfl (gS rfl (gS rfl (gS rfl (gS rfl (gS rfl g0)))))))) (gS rfl (gS rfl (gS rfl (gS rfl (gS rfl (gS rfl (gS rfl g0))))))) (gS rfl (gS rfl (gS rfl (gS rfl (gS rfl (gS rfl g0)))))) g0 (fun g => ?_)
                                                                          exact hK78 (S9.length - ((f + n))) _ _ (by omega) ⟨g, _, _, (f + n), rfl, rfl, by omega, cut_next hSs hct hgr hne9 hn9, h6n, k29, V78⟩)))))
                                                        have V88 : Go (fun k => False) W86 Hk86 W86 Hk86 := Go.refl hF
                                                        refine c_draw Up 21 [(0, true), (1, true), (2, true), (3, true), (4, true), (5, true), (6, true), (7, true), (8, true), (9, true), (10, true), (11, true), (12, true), (13, true), (14, true), (15, true), (16, true), (17, true), (18, true), (19, true), (20, true)] (by kernel_rfl) (fun w113 hu => ⟨Up.refl _, ?_⟩)
                                                        replace G := G.tr (Go.ofUp hF hu)
                                                        replace V78 := V78.tr (Go.ofUp hF hu)
                                                        replace V86 := V86.tr (Go.ofUp hF hu)
                                                        replace V88 := V88.tr (Go.ofUp hF hu)
                                                        replace hF := hF.up hu
                                                        replace k27 := k27.up hu
                                                        replace k29 := k29.up hu
                                                        replace kC := kC.up hu
                                                        replace U := U.tr hu
                                                        have SU := Up.refl w113
                                                        refine p_step (by exact rfl) (y_moveV (et (gS rfl g0) rfl)) ?_
                                                        refine p_step (by exact rfl) (y_moveV (et (gS rfl g0) rfl)) ?_
                                                        refine p_step (by exact rfl) (y_add (et (gS rfl g0) rfl) (et g0 rfl) (addIN ?_)) ?_
                                                        omega
                                                        refine p_step (by exact rfl) (y_moveV (et (gS rfl (gS rfl (gS rfl (gS rfl (gS rfl g0))))) rfl)) ?_
                                                        refine p_step (by exact rfl) (y_len Hvaa.underlying165 (et g0 rfl)) ?_
                                                        refine p_step (by exact rfl) (y_lss (et (gS rfl (gS rfl g0)) rfl) (et g0 rfl)) ?_
                                                        refine p_step (by exact rfl) (y_moveV (et g0 rfl)) ?_
                                                        refine gsplitP (i := 185) g0 (fun q114 => ?_) (fun q114 => ?_)
                                                        · skip
                                                          have hfl2 : f + n < S9.length := by have := of_decide_eq_true q114; omega
                                                          obtain ⟨bk, ok, Ck, rk, hka, hBk, hRk, hkl, hke, hkok⟩ := hSL.rowH (i := f + n) hfl2
                                                          rw [hke] at hRk hkl
                                                          obtain ⟨bk2, ok2, Ck2, rk2, hka2, hBk2, hRk2, hkl2, hke2, hkok2⟩ := hSL.rowH (i := f) hfl
                                                          rw [hke2] at hRk2 hkl2
                                                          have hkr := hBk.row hF hRk
                                                          have hkr2 := hBk2.row hF hRk2
                                                          refine p_gstep (j := 6) (t := 185) (by exact rfl) (by exact rfl) (by exact rfl) (et g0 rfl) rfl (y_moveV (et (gS rfl (gS rfl (gS rfl (gS rfl (gS rfl (gS rfl (gS rfl (gS rfl (gS rfl (gS rfl g0)))))))))) rfl)) ?_
                                                          refine p_gstep (j := 6) (t := 185) (by exact rfl) (by exact rfl) (by exact rfl) (et (gS rfl g0) rfl) rfl (y_moveV (et (gS rfl (gS rfl (gS rfl (gS rfl (gS rfl (gS rfl (gS rfl (gS rfl (gS rfl (gS rfl g0)))))))))) rfl)) ?_
                                                          refine p_gstep (j := 6) (t := 185) (by exact rfl) (by exact rfl) (by exact rfl) (et (gS rfl (gS rfl g0)) rfl) rfl (y_moveV (et (gS rfl (gS rfl (gS rfl (gS rfl (gS rfl (gS rfl (gS rfl (gS rfl (gS rfl (gS rfl g0)))))))))) rfl)) ?_
                                                          refine p_gstep (j := 6) (t := 185) (by exact rfl) (by exact rfl) (by exact rfl) (et (gS rfl (gS rfl (gS rfl g0))) rfl) rfl (y_add (et (gS rfl g0) rfl) (et g0 rfl) (addIN ?_)) ?_
                                                          omega
                                                          refine p_gstep (j := 6) (t := 185) (by exact rfl) (by exact rfl) (by exact rfl) (et (gS rfl (gS rfl (gS rfl (gS rfl g0)))) rfl) rfl (y_idxSa hka Hvaa.underlying165 sz_170 (et (gS rfl (gS rfl (gS rfl g0))) rfl) (et g0 rfl) ?_) ?_
                                                          omega
                                                          refine p_gstep (j := 6) (t := 185) (by exact rfl) (by exact rfl) (by exact rfl) (et (gS rfl (gS rfl (gS rfl (gS rfl (gS rfl g0))))) rfl) rfl (y_fld fld_170_0 (et g0 rfl)) ?_
                                                          refine p_gstep (j := 6) (t := 185) (by exact rfl) (by exact rfl) (by exact rfl) (et (gS rfl (gS rfl (gS rfl (gS rfl (gS rfl (gS rfl g0)))))) rfl) rfl (y_load1 one_21 (et g0 rfl) (atS ((hBk.row hF hRk).c1 (j := 0) (show _ = some (Value.int .i32 (S9[f + n].rank : Nat)) from rfl) (by omega)))) ?_
                                                          refine p_gstep (j := 6) (t := 185) (by exact rfl) (by exact rfl) (by exact rfl) (et (gS rfl (gS rfl (gS rfl (gS rfl (gS rfl (gS rfl (gS rfl g0))))))) rfl) rfl (y_moveV (et (gS rfl (gS rfl (gS rfl (gS rfl (gS rfl (gS rfl (gS rfl (gS rfl (gS rfl (gS rfl (gS rfl (gS rfl (gS rfl (gS rfl (gS rfl (gS rfl (gS rfl g0))))))))))))))))) rfl)) ?_
                                                          refine p_gstep (j := 6) (t := 185) (by exact rfl) (by exact rfl) (by exact rfl) (et (gS rfl (gS rfl (gS rfl (gS rfl (gS rfl (gS rfl (gS rfl (gS rfl g0)))))))) rfl) rfl (y_moveV (et (gS rfl (gS rfl (gS rfl (gS rfl (gS rfl (gS rfl (gS rfl (gS rfl (gS rfl (gS rfl (gS rfl (gS rfl (gS rfl (gS rfl (gS rfl (gS rfl (gS rfl g0))))))))))))))))) rfl)) ?_
                                                          refine p_gstep (j := 6) (t := 185) (by exact rfl) (by exact rfl) (by exact rfl) (et (gS rfl (gS rfl (gS rfl (gS rfl (gS rfl (gS rfl (gS rfl (gS rfl (gS rfl g0))))))))) rfl) rfl (y_idxSa hka2 Hvaa.underlying165 sz_170 (et (gS rfl g0) rfl) (et g0 rfl) ?_) ?_
                                                          omega
                                                          refine p_gstep (j := 6) (t := 185) (by exact rfl) (by exact rfl) (by exact rfl) (et (gS rfl (gS rfl (gS rfl (gS rfl (gS rfl (gS rfl (gS rfl (gS rfl (gS rfl (gS rfl g0)))))))))) rfl) rfl (y_fld fld_170_0 (et g0 rfl)) ?_
                                                          refine p_gstep (j := 6) (t := 185) (by exact rfl) (by exact rfl) (by exact rfl) (et (gS rfl (gS rfl (gS rfl (gS rfl (gS rfl (gS rfl (gS rfl (gS rfl (gS rfl (gS rfl (gS rfl g0))))))))))) rfl) rfl (y_load1 one_21 (et g0 rfl) (atS ((hBk2.row hF hRk2).c1 (j := 0) (show _ = some (Value.int .i32 (S9[f].rank : Nat)) from rfl) (by omega)))) ?_
                                                          refine p_gstep (j := 6) (t := 185) (by exact rfl) (by exact rfl) (by exact rfl) (et (gS rfl (gS rfl (gS rfl (gS rfl (gS rfl (gS rfl (gS rfl (gS rfl (gS rfl (gS rfl (gS rfl (gS rfl g0)))))))))))) rfl) rfl (y_eql (et (gS rfl (gS rfl (gS rfl (gS rfl (gS rfl g0))))) rfl) (et g0 rfl)) ?_
                                                          refine p_step (by exact rfl) (y_pickT (et (gS rfl (gS rfl (gS rfl (gS rfl (gS rfl (gS rfl (gS rfl (gS rfl (gS rfl (gS rfl (gS rfl (gS rfl (gS rfl g0))))))))))))) rfl) (et g0 rfl)) ?_
                                                          refine p_nil ?_
                                                          refine fK6 0 6 10 13 14 199 (gS rfl (gS rfl (gS rfl (gS rfl (gS rfl (gS rfl (gS rfl (gS rfl (gS rfl (gS rfl (gS rfl (gS rfl (gS rfl (gS rfl (gS rfl (gS rfl (gS rfl (gS rfl (gS rfl (gS rfl (gS rfl (gS rfl (gS rfl (gS rfl (gS rfl (gS rfl g0)))))))))))))))))))))))))) (gS rfl (gS rfl (gS rfl (gS rfl (gS rfl (gS rfl (gS rfl (gS rfl (gS rfl (gS rfl (gS rfl (gS rfl (gS rfl (gS rfl (gS rfl (gS rfl (gS rfl (gS rfl (gS rfl (gS rfl (gS rfl (gS rfl (gS rfl (gS rfl (gS rfl g0))))))))))))))))))))))))) (gS rfl (gS rfl (gS rfl (gS rfl (gS rfl (gS rfl (gS rfl (gS rfl (gS rfl (gS rfl (gS rfl (gS rfl (gS rfl (gS rfl (gS rfl (gS rfl (gS rfl (gS rfl (gS rfl (gS rfl (gS rfl (gS rfl (gS rfl (gS rfl g0)))))))))))))))))))))))) (gS rfl (gS rfl (gS rfl (gS rfl (gS rfl (gS rfl (gS rfl (gS rfl (gS rfl (gS rfl (gS rfl (gS rfl (gS rfl (gS rfl (gS rfl (gS rfl (gS rfl (gS rfl (gS rfl (gS rfl (gS rfl (gS rfl (gS rfl g0))))))))))))))))))))))) (gS rfl (gS rfl (gS rfl (gS rfl (gS rfl (gS rfl (gS rfl (gS rfl (gS rfl (gS rfl (gS rfl (gS rfl (gS rfl (gS rfl (gS rfl (gS rfl (gS rfl (gS rfl (gS rfl (gS rfl (gS rfl (gS rfl g0)))))))))))))))))))))) g0 (fun g => ?_)
                                                          exact hJ88 _ _ ⟨g, _, _, rfl, (by first | (rw [decide_eq_true_iff]; exact ⟨fun h9 => ⟨hfl2, fun _ => by omega⟩, fun h9 => by have := h9.2 hfl2; omega⟩) | (simp only [Bool.false_eq_true, false_iff]; exact fun h9 => hfl2 h9.1)), V88⟩
                                                        · skip
                                                          have hfl2 : ¬ f + n < S9.length := by have := of_decide_eq_false q114; omega
                                                          refine p_gskip (j := 6) (t := 185) (by exact rfl) (by exact rfl) (by exact rfl) (et g0 rfl) rfl rfl ?_
                                                          refine p_gskip (j := 6) (t := 185) (by exact rfl) (by exact rfl) (by exact rfl) (et (gS rfl g0) rfl) rfl rfl ?_
                                                          refine p_gskip (j := 6) (t := 185) (by exact rfl) (by exact rfl) (by exact rfl) (et (gS rfl (gS rfl g0)) rfl) rfl rfl ?_
                                                          refine p_gskip (j := 6) (t := 185) (by exact rfl) (by exact rfl) (by exact rfl) (et (gS rfl (gS rfl (gS rfl g0))) rfl) rfl rfl ?_
                                                          refine p_gskip (j := 6) (t := 185) (by exact rfl) (by exact rfl) (by exact rfl) (et (gS rfl (gS rfl (gS rfl (gS rfl g0)))) rfl) rfl rfl ?_
                                                          refine p_gskip (j := 6) (t := 185) (by exact rfl) (by exact rfl) (by exact rfl) (et (gS rfl (gS rfl (gS rfl (gS rfl (gS rfl g0))))) rfl) rfl rfl ?_
                                                          refine p_gskip (j := 6) (t := 185) (by exact rfl) (by exact rfl) (by exact rfl) (et (gS rfl (gS rfl (gS rfl (gS rfl (gS rfl (gS rfl g0)))))) rfl) rfl rfl ?_
                                                          refine p_gskip (j := 6) (t := 185) (by exact rfl) (by exact rfl) (by exact rfl) (et (gS rfl (gS rfl (gS rfl (gS rfl (gS rfl (gS rfl (gS rfl g0))))))) rfl) rfl rfl ?_
                                                          refine p_gskip (j := 6) (t := 185) (by exact rfl) (by exact rfl) (by exact rfl) (et (gS rfl (gS rfl (gS rfl (gS rfl (gS rfl (gS rfl (gS rfl (gS rfl g0)))))))) rfl) rfl rfl ?_
                                                          refine p_gskip (j := 6) (t := 185) (by exact rfl) (by exact rfl) (by exact rfl) (et (gS rfl (gS rfl (gS rfl (gS rfl (gS rfl (gS rfl (gS rfl (gS rfl (gS rfl g0))))))))) rfl) rfl rfl ?_
                                                          refine p_gskip (j := 6) (t := 185) (by exact rfl) (by exact rfl) (by exact rfl) (et (gS rfl (gS rfl (gS rfl (gS rfl (gS rfl (gS rfl (gS rfl (gS rfl (gS rfl (gS rfl g0)))))))))) rfl) rfl rfl ?_
                                                          refine p_gskip (j := 6) (t := 185) (by exact rfl) (by exact rfl) (by exact rfl) (et (gS rfl (gS rfl (gS rfl (gS rfl (gS rfl (gS rfl (gS rfl (gS rfl (gS rfl (gS rfl (gS rfl g0))))))))))) rfl) rfl rfl ?_
                                                          refine p_gskip (j := 6) (t := 185) (by exact rfl) (by exact rfl) (by exact rfl) (et (gS rfl (gS rfl (gS rfl (gS rfl (gS rfl (gS rfl (gS rfl (gS rfl (gS rfl (gS rfl (gS rfl (gS rfl g0)))))))))))) rfl) rfl rfl ?_
                                                          refine p_step (by exact rfl) (y_pickF (et (gS rfl (gS rfl (gS rfl (gS rfl (gS rfl (gS rfl (gS rfl (gS rfl (gS rfl (gS rfl (gS rfl (gS rfl (gS rfl g0))))))))))))) rfl) rfl) ?_
                                                          refine p_nil ?_
                                                          refine fK6 0 6 10 13 14 199 (gS rfl (gS rfl (gS rfl (gS rfl (gS rfl (gS rfl (gS rfl (gS rfl (gS rfl (gS rfl (gS rfl (gS rfl (gS rfl (gS rfl (gS rfl (gS rfl (gS rfl (gS rfl (gS rfl (gS rfl (gS rfl (gS rfl (gS rfl (gS rfl (gS rfl (gS rfl g0)))))))))))))))))))))))))) (gS rfl (gS rfl (gS rfl (gS rfl (gS rfl (gS rfl (gS rfl (gS rfl (gS rfl (gS rfl (gS rfl (gS rfl (gS rfl (gS rfl (gS rfl (gS rfl (gS rfl (gS rfl (gS rfl (gS rfl (gS rfl (gS rfl (gS rfl (gS rfl (gS rfl g0))))))))))))))))))))))))) (gS rfl (gS rfl (gS rfl (gS rfl (gS rfl (gS rfl (gS rfl (gS rfl (gS rfl (gS rfl (gS rfl (gS rfl (gS rfl (gS rfl (gS rfl (gS rfl (gS rfl (gS rfl (gS rfl (gS rfl (gS rfl (gS rfl (gS rfl (gS rfl g0)))))))))))))))))))))))) (gS rfl (gS rfl (gS rfl (gS rfl (gS rfl (gS rfl (gS rfl (gS rfl (gS rfl (gS rfl (gS rfl (gS rfl (gS rfl (gS rfl (gS rfl (gS rfl (gS rfl (gS rfl (gS rfl (gS rfl (gS rfl (gS rfl (gS rfl g0))))))))))))))))))))))) (gS rfl (gS rfl (gS rfl (gS rfl (gS rfl (gS rfl (gS rfl (gS rfl (gS rfl (gS rfl (gS rfl (gS rfl (gS rfl (gS rfl (gS rfl (gS rfl (gS rfl (gS rfl (gS rfl (gS rfl (gS rfl (gS rfl g0)))))))))))))))))))))) g0 (fun g => ?_)
                                                          exact hJ88 _ _ ⟨g, _, _, rfl, (by first | (rw [decide_eq_true_iff]; exact ⟨fun h9 => ⟨hfl2, fun _ => by omega⟩, fun h9 => by have := h9.2 hfl2; omega⟩) | (simp only [Bool.false_eq_true, false_iff]; exact fun h9 => hfl2 h9.1)), V88⟩)
                                                  · skip
                                                    
                                                    have hfe : f = S9.length := by have := of_decide_eq_false cB7; omega
                                                    subst hfe
                                                    obtain ⟨Hz115, Gz115, hlz115, hez115, hnz115⟩ := G.hold' k29 f29
                                                    replace G := Gz115
                                                    replace hF := G.fz
                                                    replace lvz25 := lvz25.mono hlz115
                                                    replace hKL := hKL.mono hlz115
                                                    replace lvz74 := lvz74.mono hlz115
                                                    replace hSL := hSL.mono hlz115
                                                    replace h6 := h6.mono hlz115
                                                    replace hL0 := hL0.trans hlz115
                                                    replace nb27 := fun hh => (hnz115 _ hh).elim nb27 (by omega)
                                                    refine c_exit ?_
                                                    refine hQ77 _ _ _ (in_exit ?_)
                                                    refine hK75 _ _ ?_
                                                    refine fg1 6 (gS rfl (gS rfl (gS rfl g0))) (fun g => ?_)
                                                    refine c_seq (fun K116 hK116 => ?_)
                                                    exact (by
                                                      refine c_region ?_
                                                      refine l_step (y_moveV (et g0 rfl)) ?_
                                                      refine l_step (y_assignV (et g0 rfl)) ?_
                                                      refine l_nil ?_
                                                      refine hK116 _ _ ?_
                                                      refine fg1 2 g0 (fun g => ?_)
                                                      refine c_ret ?_
                                                      repeat with_reducible refine then_ret ?_
                                                      refine ret1 rfl (res_tmp (et g0 rfl)) ?_
                                                      exact ⟨_, _, G, h6.lv' hez115 (by rw [wL2_len]) (by omega), exp_of ho hKp hKs hSp hSs⟩)))))))))))))))))
end Go.Proofs.YgvaawGreat
