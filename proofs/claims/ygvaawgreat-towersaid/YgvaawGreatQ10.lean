import Derived.Test.YgvaawGreatQ9
set_option maxRecDepth 100000
set_option maxHeartbeats 4000000
set_option linter.unusedSimpArgs false
set_option linter.unusedVariables false
namespace Go.Proofs.YgvaawGreat
open Go
theorem eff_yv {n : Nat} {s : Nat → Value} {w : World} {o : Oper} {v : Value} (h : Yv (fun w' => w' = w) n s o v) : Eff n s w o (fun u w' => u = v ∧ Up w w') := by
  refine ⟨fun K Q hK => ?_⟩
  have : (execOp (mk n s).eval o).run Hvaa.prog w = .ok (.value v) w := by rw [mk_eval']; exact h w rfl
  unfold Oper.wp
  rw [this]
  exact hK _ _ ⟨rfl, Up.refl w⟩
theorem one_col {b bc : Nat} (h : 0 < (if b = bc then 1 else 0) ∧ (if b = bc then 1 else 0) < 8) : b = bc := by
  by_cases e : b = bc
  · exact e
  · rw [if_neg e] at h; omega
theorem vl_zero {w : World} {H : Store} {bc : Nat} (hF : Fz w H) (k : Blk w bc zChn.toArray) (nb : ¬ H.has bc) : VL w H (fun b => if b = bc then 1 else 0) bc zChn.toArray ev0 := by
  have hR : RowIn zChn.toArray 0 zChn := RowIn.self _
  unfold zChn at hR
  have h1 := hR.right
  rw [mC_len _ _ (envC_len _ _)] at h1
  have hV := h1.left
  have hT := h1.right
  rw [zVlt_len] at hT
  unfold zVlt at hV
  have a1 := hV.left
  have r1 := hV.right
  have a2 := r1.left
  have r2 := r1.right
  have a3 := r2.left
  have r3 := r2.right
  have a4 := r3.left
  have r4 := r3.right
  have a6 := r4.right
  simp only [List.length_cons, List.length_nil, List.length_replicate, Nat.reduceAdd, Nat.zero_add] at a1 a2 a3 a4 a6
  unfold zTree at hT
  exact ⟨hF, k, by rw [List.size_toArray, zChn_len], if_pos rfl, fun b hb => if_neg (fun e => by have := k.lt; omega), fun b hb => if_neg (fun e => nb (by rw [← e]; exact hb)),
    ⟨_, 0, #[], a1.q9 (i := 0) rfl (by omega), AR.nil _ _ _ _ _ _, (fun e => by cases e)⟩, ⟨_, 0, #[], a1.q9 (i := 1) rfl (by omega), AR.nil _ _ _ _ _ _, (fun e => by cases e)⟩, ⟨_, 0, #[], a4.q9 (i := 0) rfl (by omega), AR.nil _ _ _ _ _ _, (fun e => by cases e)⟩, ⟨_, 0, #[], a6.q9 (i := 2) rfl (by omega), AR.nil _ _ _ _ _ _, (fun e => by cases e)⟩, ⟨_, 0, #[], a6.q9 (i := 3) rfl (by omega), AR.nil _ _ _ _ _ _, (fun e => by cases e)⟩, ⟨_, 0, #[], a6.q9 (i := 4) rfl (by omega), fun _ => rfl, (fun h => by cases h)⟩,
    fun p hp => row_rep a2 hp, fun p hp => row_rep a3 hp, (fun i m hm => by cases hm), a6.q9 (i := 0) rfl (by omega), a6.q9 (i := 1) rfl (by omega), hT.q9 (i := 4) rfl (by omega)⟩
theorem rep_one {n : Nat} {z : Value} (h : z.one1 = true) : ∀ v ∈ List.replicate n z, v.one1 = true := fun v hv => by rw [List.eq_of_mem_replicate hv]; exact h
theorem zFrm_one : ∀ v ∈ zFrm, v.one1 = true := by
  have h : zFrm.all Value.one1 = true := by kernel_rfl
  exact fun v hv => List.all_eq_true.1 h v hv
theorem one_cat {a b : List Value} (h1 : ∀ v ∈ a, v.one1 = true) (h2 : ∀ v ∈ b, v.one1 = true) : ∀ v ∈ a ++ b, v.one1 = true := fun v hv => (List.mem_append.1 hv).elim (h1 v) (h2 v)
theorem mC_one {v0 : Value} {t : Int} {E : List Value} (h0 : v0.one1 = true) (hE : ∀ v ∈ E, v.one1 = true) : ∀ v ∈ mC v0 t E, v.one1 = true := by
  have z1 : ∀ v ∈ zArn, v.one1 = true := one_cat (one_sgl rfl) (one_cat (rep_one rfl) (one_sgl rfl))
  refine one_cat (one_sgl h0) (one_cat z1 (one_cat (rep_one rfl) (one_cat zFrm_one (one_cat (one_sgl rfl) (one_cat (one_sgl rfl) (one_cat hE (one_cat (one_bL _) (one_cat (one_uL _) (one_cat ?_ (one_cat (one_uL _) (one_cat ?_ (one_bL _))))))))))))
  · intro v hv
    simp only [List.mem_cons, List.not_mem_nil, or_false] at hv
    rcases hv with h | h | h | h | h <;> (rw [h]; rfl)
  · exact one_two rfl rfl
theorem lo_ini {H : Store} {cs : Array Value} {bc : Nat} {l : List YAcct} {e : YEnv} {vha : Option Addr} {vhc : Nat} (hs : cs.size = 27024) (hR : RowIn cs 0 (mC (.pointer (some ⟨bc, 2435, none⟩)) (-1) (envC e (.slice vha e.hashes.length vhc)))) (hH : LV P_word 32 H (.slice vha e.hashes.length vhc) e.hashes) (eo : EOk e) : LO H cs bc (qOf (iniY l e) (some 0) (some 0)) ∧ ∀ w col, MA w col cs [] 0 #[] 0 := by
  unfold mC at hR
  have a0 := hR.left
  have r0 := hR.right
  have a1 := r0.left
  have r1 := r0.right
  have r2 := r1.right
  have r3 := r2.right
  have a4 := r3.left
  have r4 := r3.right
  have a5 := r4.left
  have r5 := r4.right
  have a6 := r5.left
  have r6 := r5.right
  have a7 := r6.left
  have r7 := r6.right
  have a8 := r7.left
  have r8 := r7.right
  have a9 := r8.left
  have r9 := r8.right
  have a10 := r9.left
  have r10 := r9.right
  have a12 := r10.right
  unfold zStk at r3 a4 r4 a5 r5 a6 r6 a7 r7 a8 r8 a9 r9 a10 r10 a12
  unfold zArn at a1
  have b1 := a1.left
  have b2 := a1.right
  have b3 := b2.left
  have b4 := b2.right
  simp only [List.length_cons, List.length_nil, List.length_replicate, Nat.reduceAdd, Nat.zero_add, zFrm_len, zArn_len, envC_len, length_bL, length_be, wL_len] at a0 a4 a5 a6 a7 a8 a9 a10 a12 b1 b3 b4
  refine ⟨⟨hs, a0.q9 (i := 0) rfl (by omega), a4.q9 (i := 0) rfl (by omega), ⟨none, 0, a5.q9 (i := 0) rfl (by omega), BV.nil _⟩, EC.ofRow eo a6 hH, a7, a8, a9.q9 (i := 0) rfl (by omega), a9.q9 (i := 1) rfl (by omega), a9.q9 (i := 2) rfl (by omega), a9.q9 (i := 3) rfl (by omega), fun n hn => ?_, fun n hn => ?_, a12⟩, fun w col => ⟨b4.q9 (i := 0) rfl (by omega), fun i hi => ?_, ⟨_, b1.q9 (i := 0) rfl (by omega), GB.nil _ _ _ _, (fun e => by cases e)⟩, Nat.le_refl _, Nat.zero_le _, (fun i v hv => by cases hv), Nat.zero_le _, (fun m hm => by cases hm), (fun m hm => by cases hm)⟩⟩
  · cases hn
    exact a9.q9 (i := 4) rfl (by omega)
  · cases hn
    exact a10
  · have h0 : i = 0 := by simpa using hi
    subst h0
    exact row_rep b3 (by decide)
theorem va_ini {l : List YAcct} {V : EV} {n : Nat} (h : FV l V n) : VA V (absY (yw l)) [] (slF l) := ⟨h.abs, h.og, (by rw [h.mr]; rfl), (fun i m hm => by rw [h.mr] at hm; cases hm), (fun i j m n _ hm => by rw [h.mr] at hm; cases hm)⟩
theorem ei_ini {l : List YAcct} {e : YEnv} {V : EV} (h : FV l V 128) (hl : l.length ≤ 8) : EI V (iniY l e) := ⟨by have := h.na; show 2600 * V.accts.length ≤ 2600 * (8 + 21 * 0) + 1048576 * 0; omega, by have := h.ns; show 2100 * V.slots.length ≤ 2100 * (128 + 64 * 0) + 1048576 * 0; omega, h.jr, h.mr, h.te⟩
theorem v_fillT {w : World} {H : Store} {col : Nat → Nat} {bc : Nat} {cs : Array Value} (hV : VL w H col bc cs ev0) {l : List YAcct} {wa : Option Addr} {wc : Nat} (hW : LV P_oacct 55 H (.slice wa l.length wc) l) (hlm : l.length < 9223372036854775808) : Ret 28 [.pointer (some ⟨bc, 2435, none⟩), .slice wa l.length wc] w (fun v w' => ∃ (t : Bool) (H' : Store) (col' : Nat → Nat) (cs' : Array Value) (V' : EV), v = .bool t ∧ (t = true ↔ WOk l) ∧ VT w H col bc cs w' H' col' cs' V' ∧ (t = true → FV l V' 128)) :=
  (v_fill hV hW hlm).mono (fun v w' ⟨t, h1, h2, h3, h4⟩ => by
    cases t with
    | false => exact ⟨false, H, col, cs, ev0, h1, h2, (VT.refl hV).up (h3 rfl), (fun h => by cases h)⟩
    | true =>
      obtain ⟨H', col', cs', V', h5, h6⟩ := h4 rfl
      exact ⟨true, H', col', cs', V', h1, h2, h5, fun _ => h6⟩)
/-- the engine idle at s -/
structure XI (w : World) (H : Store) (col : Nat → Nat) (bc : Nat) (s : YSt) : Prop where
  ex : ∃ cs V tg hd, XR w H col w H col bc cs V [] ∧ LO H cs bc (qOf s tg hd) ∧ VA V (absY s.now) [] (slF s.now.accts) ∧ EI V s
theorem e_new {w : World} {H : Store} (hF : Fz w H) {l : List YAcct} {wa ha : Option Addr} {wc hc : Nat} {e : YEnv} (hW : LV P_oacct 55 H (.slice wa l.length wc) l) (hlm : l.length < 9223372036854775808) (heb : EB e) (hH : LV P_word 32 H (.slice ha e.hashes.length hc) e.hashes) :
    Ret 11 [(.slice wa l.length wc), .agg (envC e (.slice ha e.hashes.length hc)).toArray] w (fun v w' => ∃ t : Bool, (t = true ↔ WOk l ∧ e.hashes.length ≤ 4) ∧ (t = false → v = .tuple #[.pointer none, .bool false] ∧ Up w w') ∧ (t = true → ∃ bc H' col', v = .tuple #[.pointer (some ⟨bc, 0, none⟩), .bool true] ∧ Go No w H w' H' ∧ w.heap.size ≤ bc ∧ XI w' H' col' bc (iniY l e) ∧ ∀ b, b < w.heap.size → col' b = 0)) := by
  refine enter (n := 28) Hvaa.func11 rfl rfl (Nat.le_of_ble_eq_true rfl) ?_
  have U := Up.refl w
  have G : Go (No) w H w H := Go.refl hF
  have hL0 : Le H H := Le.refl H
  refine c_seq (fun K1 hK1 => ?_)
  exact (by
    refine c_region ?_
    refine l_eff (e_boxV (et (gS rfl g0) rfl)) (fun v2 w2 h2 => ?_)
    obtain ⟨b2, rfl, n2⟩ := h2
    have f2 : w.heap.size ≤ b2 := Nat.le_trans U.size n2.fresh
    have nb2 := hF.nb n2.fresh
    replace G := G.tr (Go.ofUp hF n2.up)
    replace hF := hF.up n2.up
    replace U := U.tr n2.up
    have k2 := n2.blk
    replace k2 : Blk w2 b2 (envC e (.slice ha e.hashes.length hc)).toArray := k2
    refine l_step y_assignC ?_
    refine l_step y_assignC ?_
    refine l_nil ?_
    refine hK1 _ _ ?_
    refine fg2 0 3 (gS rfl (gS rfl (gS rfl g0))) (gS rfl (gS rfl g0)) (fun g => ?_)
    refine c_seq (fun K3 hK3 => ?_)
    refine c_seq (fun K4 hK4 => ?_)
    exact (by
      refine c_region ?_
      refine l_step (y_loadB agg_31 sz_31 (et g0 rfl) (by rw [List.size_toArray, envC_len]) (at1B k2)) ?_
      refine l_eff (e_callV cal_27 (aC (et g0 rfl) aN) (obs_envOK _ _ _ _ _ (envC_h _ _))) (fun v5 w5 h5 => ?_)
      obtain ⟨rfl, u5⟩ := h5
      replace G := G.tr (Go.ofUp hF u5)
      replace hF := hF.up u5
      replace k2 := k2.up u5
      replace U := U.tr u5
      refine l_step (y_not (et g0 rfl)) ?_
      refine l_nil ?_
      refine hK4 _ _ ?_
      refine fg3 0 3 9 (gS rfl (gS rfl (gS rfl (gS rfl g0)))) (gS rfl (gS rfl (gS rfl g0))) g0 (fun g => ?_)
      refine c_cond (et g0 rfl) (fun cB1 => ?_) (fun cB1 => ?_)
      · skip
        
        have hn : ¬ (WOk l ∧ e.hashes.length ≤ 4) := fun h9 => by simp at cB1; omega
        refine c_seq (fun K7 hK7 => ?_)
        exact (by
          refine c_region ?_
          refine l_step y_assignC ?_
          refine l_step y_assignC ?_
          refine l_nil ?_
          refine hK7 _ _ ?_
          refine fg2 4 5 (gS rfl g0) g0 (fun g => ?_)
          refine c_ret ?_
          repeat with_reducible refine then_ret ?_
          refine ret2 rfl (res_tmp (et (gS rfl g0) rfl)) (res_tmp (et g0 rfl)) ?_
          exact ⟨false, ⟨fun h9 => (by cases h9), fun h9 => absurd h9 hn⟩, fun _ => ⟨rfl, G.up⟩, fun h9 => (by cases h9)⟩)
      · skip
        
        have hh4 : e.hashes.length ≤ 4 := by simpa using cB1
        refine c_skip ?_
        refine hK3 _ _ ?_
        refine fg2 0 3 (gS rfl (gS rfl g0)) (gS rfl g0) (fun g => ?_)
        refine c_seq (fun K8 hK8 => ?_)
        exact (by
          refine c_region ?_
          refine l_eff (e_alloc zr_91) (fun v9 w9 h9 => ?_)
          obtain ⟨b9, rfl, n9⟩ := h9
          have d2_9 : b2 < b9 := Nat.lt_of_lt_of_le k2.lt n9.fresh
          have f9 : w.heap.size ≤ b9 := Nat.le_trans U.size n9.fresh
          have nb9 := hF.nb n9.fresh
          replace G := G.tr (Go.ofUp hF n9.up)
          replace hF := hF.up n9.up
          replace k2 := k2.up n9.up
          replace U := U.tr n9.up
          have k9 := n9.blk
          replace k9 : Blk w9 b9 zChn.toArray := k9
          have hlt10 := k9.lt
          have hVz := vl_zero hF k9 nb9
          refine l_step (y_assignV (et g0 rfl)) ?_
          refine l_nil ?_
          refine hK8 _ _ ?_
          refine fg3 0 3 6 (gS rfl (gS rfl (gS rfl g0))) (gS rfl (gS rfl g0)) g0 (fun g => ?_)
          refine c_seq (fun K10 hK10 => ?_)
          refine c_seq (fun K11 hK11 => ?_)
          exact (by
            refine c_region ?_
            refine l_step (y_moveV (et g0 rfl)) ?_
            refine l_step (y_nil (et g0 rfl)) ?_
            refine l_step (y_fld fld_91_1 (et g0 rfl)) ?_
            refine l_step (y_moveV (et (gS rfl (gS rfl (gS rfl (gS rfl (gS rfl g0))))) rfl)) ?_
            refine l_eff (e_callV cal_28 (aC (et (gS rfl g0) rfl) (aC (et g0 rfl) aN)) (v_fillT hVz (hW.mono hL0) hlm)) (fun v12 w12 h12 => ?_)
            obtain ⟨t9, H12, col9, cs9, V9, rfl, ht9, hT9, hfv9⟩ := h12
            have g12 := hT9.go.wk (N := fun b => b = b9) (fun b hb => one_col hb)
            have hlew12 := g12.le
            replace nb2 := g12.nb nb2 k2.lt
            replace nb9 := g12.nb nb9 k9.lt
            replace hL0 := hL0.trans hlew12
            replace k2 := k2.ch g12.ch (by omega)
            replace k9 := hT9.vl.kC
            replace U := U.cc g12.ch (by intro b hb; first | exact .inr (hb ▸ f9) | exact hb ▸ f9)
            replace G := G.trans g12 (by intro b hb; first | exact .inr (hb ▸ f9) | exact hb ▸ f9)
            replace hF := g12.fz
            refine l_step (y_not (et g0 rfl)) ?_
            refine l_nil ?_
            refine hK11 _ _ ?_
            refine fg3 3 6 16 (gS rfl (gS rfl (gS rfl (gS rfl (gS rfl (gS rfl (gS rfl g0))))))) (gS rfl (gS rfl (gS rfl (gS rfl (gS rfl (gS rfl g0)))))) g0 (fun g => ?_)
            refine c_cond (et g0 rfl) (fun cB2 => ?_) (fun cB2 => ?_)
            · skip
              
              have hn : ¬ (WOk l ∧ e.hashes.length ≤ 4) := fun h9 => by rw [ht9.2 h9.1] at cB2; cases cB2
              refine c_seq (fun K14 hK14 => ?_)
              exact (by
                refine c_region ?_
                refine l_step y_assignC ?_
                refine l_step y_assignC ?_
                refine l_nil ?_
                refine hK14 _ _ ?_
                refine fg2 4 5 (gS rfl g0) g0 (fun g => ?_)
                refine c_ret ?_
                repeat with_reducible refine then_ret ?_
                refine ret2 rfl (res_tmp (et (gS rfl g0) rfl)) (res_tmp (et g0 rfl)) ?_
                exact ⟨false, ⟨fun h9 => (by cases h9), fun h9 => absurd h9 hn⟩, fun _ => ⟨rfl, G.up⟩, fun h9 => (by cases h9)⟩)
            · skip
              
              have ht8 : t9 = true := by simpa using cB2
              have hok := ht9.1 ht8
              have hfv := hfv9 ht8
              have Vx9 : Go No w12 H12 w12 H12 := Go.refl hF
              have hVL9 := hT9.vl
              refine c_skip ?_
              refine hK10 _ _ ?_
              refine fg2 3 6 (gS rfl (gS rfl g0)) (gS rfl g0) (fun g => ?_)
              refine c_seq (fun K15 hK15 => ?_)
              exact (by
                refine c_draw Up 10 [(0, true), (1, true), (2, true), (3, true), (4, true), (5, false), (6, true), (7, false), (8, true), (9, true), (10, false)] (by kernel_rfl) (fun w16 hu => ⟨Up.refl _, ?_⟩)
                replace G := G.tr (Go.ofUp hF hu)
                replace Vx9 := Vx9.tr (Go.ofUp hF hu)
                replace hF := hF.up hu
                replace k2 := k2.up hu
                replace k9 := k9.up hu
                replace U := U.tr hu
                have SU := Up.refl w16
                refine p_step (by exact rfl) (y_moveV (et g0 rfl)) ?_
                refine p_step (by exact rfl) (y_moveV (et (gS rfl g0) rfl)) ?_
                refine p_step (by exact rfl) (y_nil (et g0 rfl)) ?_
                refine p_step (by exact rfl) (y_fld fld_91_1 (et g0 rfl)) ?_
                refine p_step (by exact rfl) (y_loadB agg_31 sz_31 (et (gS rfl (gS rfl (gS rfl (gS rfl (gS rfl g0))))) rfl) (by rw [List.size_toArray, envC_len]) (atSB k2)) ?_
                refine p_eff (by exact rfl) (e_callV cal_29 (aC (et (gS rfl g0) rfl) (aC (et g0 rfl) aN)) (m_new hF (hH.mono hL0) hh4)) (fun v17 w17 h17 => ?_)
                obtain ⟨bm17, H17, vha, vhc, rfl, g17, hbm17, hnb17, km17, lv17⟩ := h17
                have hlew17 := g17.le
                replace nb2 := g17.nb nb2 k2.lt
                replace nb9 := g17.nb nb9 k9.lt
                replace hL0 := hL0.trans hlew17
                replace k2 := k2.up g17.up
                replace k9 := k9.up g17.up
                replace U := U.tr g17.up
                replace G := G.tr g17
                replace Vx9 := Vx9.tr g17
                replace hF := g17.fz
                refine ⟨.inr (SU.tr g17.up), ?_⟩
                replace SU := SU.tr g17.up
                refine p_step (by exact rfl) (y_nil (et g0 rfl)) ?_
                refine p_eff (by exact rfl) (eff_yv (y_loadB agg_75 sz_75 (et g0 rfl) (by rw [List.size_toArray, mC_len _ _ (envC_len _ _)]) (at1B km17))) (fun v18 w18 h18 => ?_)
                obtain ⟨rfl, u18⟩ := h18
                replace G := G.tr (Go.ofUp hF u18)
                replace Vx9 := Vx9.tr (Go.ofUp hF u18)
                replace hF := hF.up u18
                replace k2 := k2.up u18
                replace k9 := k9.up u18
                replace U := U.tr u18
                refine ⟨.inr (SU.tr u18), ?_⟩
                replace SU := SU.tr u18
                exact (by
                  refine p_step (by exact rfl) (y_nil (et (gS rfl (gS rfl (gS rfl (gS rfl (gS rfl (gS rfl (gS rfl g0))))))) rfl)) ?_
                  refine p_step (by exact rfl) (y_fld fld_91_0 (et g0 rfl)) ?_
                  have hVL := hVL9.go Vx9 (fun _ h => h.elim)
                  refine p_effN (by exact rfl) (e_store sz_75 (et g0 rfl) (cellsV (et (gS rfl (gS rfl g0)) rfl) rfl) (mC_len _ _ (envC_len _ _)) (by exact mC_one rfl (envC_one _ rfl)) k9 (by (rw [hT9.vl.size]; first | decide | (rw [mC_len _ _ (envC_len _ _)]; decide)))) (fun v19 w19 h19 => ?_)
                  obtain ⟨rfl, x19⟩ := h19
                  replace k2 := k2.ch x19.ch (by omega)
                  replace k9 := x19.blk
                  replace G := G.wr x19 (by first | exact .inr f9 | exact .inl rfl | omega | (simp; omega)) nb9
                  replace hF := G.fz
                  replace U := U.st x19 f9
                  refine ⟨.inl rfl, ?_⟩
                  simp only [Nat.add_zero] at x19 k9
                  have hV2 := hVL.low x19 (by rw [mC_len _ _ (envC_len _ _)]; decide)
                  have hrow0 : RowIn (spl cs9 0 (mC (.pointer (some ⟨b9, 2435, none⟩)) (-1) (envC e (.slice vha e.hashes.length vhc)))) 0 (mC (.pointer (some ⟨b9, 2435, none⟩)) (-1) (envC e (.slice vha e.hashes.length vhc))) := row_spl0 (by rw [mC_len _ _ (envC_len _ _), hT9.vl.size]; decide)
                  generalize spl cs9 0 (mC (.pointer (some ⟨b9, 2435, none⟩)) (-1) (envC e (.slice vha e.hashes.length vhc))) = cs5 at hV2 hrow0 k9
                  obtain ⟨hLO, hMA⟩ := lo_ini (l := l) hV2.size hrow0 lv17 ⟨heb.coinbase, heb.number, heb.time, heb.gasLimit, heb.randao, heb.chainID, heb.baseFee, hh4⟩
                  have hXR : XR w19 H17 col9 w19 H17 col9 b9 cs5 V9 [] := ⟨hV2, hfv.ok, ⟨0, #[], 0, hMA _ _⟩, ⟨Go.refl hF, fun _ _ => rfl⟩⟩
                  have hXI : XI w19 H17 col9 b9 (iniY l e) := ⟨cs5, V9, some 0, some 0, hXR, hLO, va_ini hfv, ei_ini hfv hok.len⟩
                  refine p_nil ?_
                  refine hK15 _ _ ?_
                  refine fg1 6 (gS rfl (gS rfl (gS rfl (gS rfl (gS rfl (gS rfl (gS rfl (gS rfl (gS rfl (gS rfl g0)))))))))) (fun g => ?_)
                  refine c_seq (fun K20 hK20 => ?_)
                  exact (by
                    refine c_region ?_
                    refine l_step (y_moveV (et g0 rfl)) ?_
                    refine l_step (y_assignV (et g0 rfl)) ?_
                    refine l_step y_assignC ?_
                    refine l_nil ?_
                    refine hK20 _ _ ?_
                    refine fg2 4 5 (gS rfl g0) g0 (fun g => ?_)
                    refine c_ret ?_
                    repeat with_reducible refine then_ret ?_
                    refine ret2 rfl (res_tmp (et (gS rfl g0) rfl)) (res_tmp (et g0 rfl)) ?_
                    exact ⟨true, ⟨fun _ => ⟨hok, hh4⟩, fun _ => rfl⟩, fun h9 => (by cases h9), fun _ => ⟨_, _, col9, rfl, G, f9, hXI, fun b hb => (hT9.col b (by have h9 := f9; omega)).trans (if_neg (by have h9 := f9; omega))⟩⟩)))))))
end Go.Proofs.YgvaawGreat
