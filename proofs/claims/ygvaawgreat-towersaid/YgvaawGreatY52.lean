import Derived.Test.YgvaawGreatY51
import Derived.Test.YgvaawGreatS4
set_option maxRecDepth 100000
set_option maxHeartbeats 4000000
set_option linter.unusedSimpArgs false
set_option linter.unusedVariables false
namespace Go.Proofs.YgvaawGreat
open Go
/-- raw cells as records -/
def P_raw : Cp (List Value) := fun _ c x => c = x
theorem mono_raw : Mono P_raw := fun _ _ _ _ _ h => h
theorem mc_raw : MC P_raw := ⟨mono_raw⟩
/-- rows of cells that are records -/
structure RWs {α : Type} (P : Cp α) (k : Nat) (H : Store) (rows : List (List Value)) (xs : List α) : Prop where
  len : rows.length = xs.length
  get : ∀ (i : Nat) c x, rows[i]? = some c → xs[i]? = some x → c.length = k ∧ P H c x
theorem RWs.mono {α : Type} {P : Cp α} {k : Nat} {H H' : Store} {rows : List (List Value)} {xs : List α} (h : RWs P k H rows xs) (hl : Le H H') (mc : MC P := by first | with_reducible exact mc_addr | with_reducible exact mc_word | with_reducible exact mc_slot | with_reducible exact mc_acct | with_reducible exact mc_mark | with_reducible exact mc_tri | with_reducible exact mc_log | with_reducible exact mc_nat | with_reducible exact mc_access | with_reducible exact mc_sk | with_reducible exact mc_ea | with_reducible exact mc_es | with_reducible exact mc_raw | with_reducible exact mc_oslot | with_reducible exact mc_oacct | with_reducible exact mc_tx | assumption) : RWs P k H' rows xs := ⟨h.len, fun i c x hc hx => ⟨(h.get i c x hc hx).1, mc.m _ _ _ _ hl (h.get i c x hc hx).2⟩⟩
theorem RWs.nil {α : Type} (P : Cp α) (k : Nat) (H : Store) : RWs P k H [] [] := ⟨rfl, fun i c x hc => by simp at hc⟩
theorem RWs.snoc {α : Type} {P : Cp α} {k : Nat} {H : Store} {rows : List (List Value)} {xs : List α} {c : List Value} {x : α} (h : RWs P k H rows xs) (hc : c.length = k) (hP : P H c x) : RWs P k H (rows ++ [c]) (xs ++ [x]) := by
  refine ⟨by rw [List.length_append, List.length_append, h.len]; rfl, fun j d y hd hy => ?_⟩
  rcases Nat.lt_or_ge j rows.length with hj | hj
  · rw [List.getElem?_append_left hj] at hd
    rw [List.getElem?_append_left (by rw [← h.len]; exact hj)] at hy
    exact h.get j d y hd hy
  · rw [List.getElem?_append_right hj] at hd
    rw [List.getElem?_append_right (by rw [← h.len]; exact hj), ← h.len] at hy
    have hj0 : j - rows.length = 0 := by
      rcases Nat.eq_zero_or_pos (j - rows.length) with h0 | h0
      · exact h0
      · rw [List.getElem?_eq_none (by simp; omega)] at hd; cases hd
    rw [hj0] at hd hy
    simp at hd hy
    subst hd
    subst hy
    exact ⟨hc, hP⟩
theorem GL.of_raw {α : Type} {P : Cp α} {H H' : Store} {base e k B : Nat} {w : World} {v : Value} {rows : List (List Value)} {xs : List α} (h : GL P_raw H base e k B w v rows) (r : RWs P k H' rows xs) : GL P H' base e k B w v xs := by
  obtain ⟨cs, h1, h2, h3⟩ := h.ex
  refine ⟨cs, h1, by rw [h2, r.len], fun i c x hc hx => ?_⟩
  have hi : i < rows.length := by rw [← h2]; exact (List.getElem?_eq_some_iff.1 hc).1
  have h4 : c = rows[i] := (h3 i c rows[i] hc (List.getElem?_eq_getElem hi)).2
  exact r.get i c x (by rw [h4]; exact List.getElem?_eq_getElem hi) hx
theorem Go.ext2 {M : Nat → Prop} {w w' : World} {H H' H2 : Store} {P : Nat → Prop} (g : Go M w H w' H') (hF : Fz w' H2) (hl : Le H' H2) (hn : ∀ q, H2.has q → H'.has q ∨ P q) (hf : ∀ q, P q → w.heap.size ≤ q) : Go M w H w' H2 :=
  ⟨g.ch, hF, g.le.trans hl, fun q hq => by
    rcases hn q hq with h | h
    · exact g.new q h
    · exact .inr (hf q h)⟩
theorem oaC_set {A : YAcct} {vc u v : Value} : spl (oaC A vc u).toArray (0 + 54) [v] = (oaC A vc v).toArray := by
  have h := spl_mid (bL (be 20 A.addr) ++ (.int .u64 (A.nonce : Nat) :: (bL (be 32 A.bal) ++ [vc]))) u [] v (0 + 54) (by simp only [List.length_append, List.length_cons, List.length_nil, length_bL, length_be])
  unfold oaC
  simpa using h
theorem acct_P {H : Store} {c : List Value} {A : YAcct} {vn vb vc vs : Value} (e : c = bL (be 20 A.addr) ++ [vn, vb, vc, vs]) (h1 : A.addr < A160) (h2 : NV H vn A.nonce) (h3 : NV H vb A.bal) (h4 : BV H vc A.code) (h5 : LV P_slot 2 H vs A.slots) (h6 : A.nonce < 18446744073709551616) (h7 : A.bal < W256) (h8 : A.code.length < 4294967296) : P_acct H c A := ⟨vn, vb, vc, vs, e, h1, h2, h3, h4, h5, h6, h7, h8⟩
theorem e_appRaw {H : Store} {n : Nat} {s : Nat → Value} {w : World} {d : Option Nat} {ty : TypeId} {pos : String} {af : Array Edge} {g : Option (Nat × Bool)} {x y : Operand} {T e k q base B by_ : Nat} {z v : Value} {O : List (List Value)} {c : List Value} (hU : Hvaa.prog.underlying T = some (.slice e)) (hs : Sz e k) (hz : Zr e z) (hq : By e q) (hzs : z.cells.size = k) (hk : 0 < k)
    (hx : ev n s x = v) (hO : GL P_raw H base e k B w v O) (hy : ev n s y = .slice (some ⟨by_, 0, none⟩) 1 1) (hc : c.length = k) (hr : Blk w by_ c.toArray) (h1 : ∀ u ∈ c, u.one1 = true) (hq2 : q ≤ 4096) (hn : O.length ≤ 4294967296) (hbase : base ≤ w.heap.size) :
    Eff n s w ⟨d, .call { callee := .builtin .append, args := #[x, y], argTypes := #[T, T] }, ty, pos, af, g⟩ (fun v' w' => GL P_raw H base e k w'.heap.size w' v' (O ++ [c]) ∧ Ch (fun b => some b = v.ownBlock) w w' ∧ ∀ b, b < w.heap.size → ¬ some b = v.ownBlock → ¬ some b = v'.ownBlock) := e_appL hU hs hz hq hzs hk hx hO hy hc hr h1 rfl hq2 hn hbase
theorem yp_export {w : World} {H : Store} (hF : Fz w H) {bs : Nat} {cs : Array Value} {l : List YAcct} {aa : Option Addr} {ac : Nat} (kS : Blk w bs cs) (hc0 : cs[0]? = some (.slice aa l.length ac)) (hAc : LV P_acct 24 H (.slice aa l.length ac) l) (hl9 : l.length < 1048576) (hsl9 : ∀ A ∈ l, A.slots.length < 1048576) :
    Ret 10 [.pointer (some ⟨bs, 0, none⟩)] w (fun v w' => ∃ H', Go No w H w' H' ∧ LV P_oacct 55 H' v (expL l)) := by
  have lS := kS.lt
  refine enter (n := 59) Hvaa.func10 rfl rfl (Nat.le_of_ble_eq_true rfl) ?_
  have U := Up.refl w
  have G : Go (No) w H w H := Go.refl hF
  have hL0 : Le H H := Le.refl H
  refine c_seq (fun K1 hK1 => ?_)
  exact (by
    refine c_region ?_
    refine l_step y_assignC ?_
    refine l_nil ?_
    refine hK1 _ _ ?_
    refine fg1 0 (gS rfl g0) (fun g => ?_)
    refine c_seq (fun K2 hK2 => ?_)
    exact (by
      refine c_region ?_
      refine l_step y_assignC ?_
      refine l_nil ?_
      refine hK2 _ _ ?_
      refine c_seq (fun K3 hK3 => ?_)
      refine c_seq (fun K4 hK4 => ?_)
      exact (by
        refine c_region ?_
        refine l_step (y_moveV (et (gS rfl g0) rfl)) ?_
        refine l_step (y_nil (et g0 rfl)) ?_
        refine l_step (y_fld fld_104_0 (et g0 rfl)) ?_
        refine l_step (y_fld fld_102_0 (et g0 rfl)) ?_
        refine l_step (y_fld fld_98_0 (et g0 rfl)) ?_
        refine l_step (y_load1 one_92 (et g0 rfl) (at1 (kS.cell hc0))) ?_
        refine l_step (y_len Hvaa.underlying92 (et g0 rfl)) ?_
        refine l_step y_moveC ?_
        refine l_nil ?_
        refine hK4 _ _ ?_
        refine fg4 3 14 15 16 (gS rfl (gS rfl (gS rfl (gS rfl (gS rfl (gS rfl (gS rfl (gS rfl g0)))))))) (gS rfl (gS rfl g0)) (gS rfl g0) g0 (fun g => ?_)
        refine c_block (fun Q5 hQ5 => ?_)
        refine fg4 3 14 15 16 (gS rfl (gS rfl (gS rfl g0))) (gS rfl (gS rfl g0)) (gS rfl g0) g0 (fun g => ?_)
        obtain ⟨base, hbs⟩ : ∃ base, base = w.heap.size := ⟨_, rfl⟩
        have hbw : w.heap.size ≤ base := by rw [hbs]; exact U.size
        refine c_loop (fun k_ s_ W6 => ∃ (g : Nat → Value) (Hk6 : Store) (vt : Value) (rows : List (List Value)) (i : Nat), s_ = (upd (upd (upd (upd g 3 vt) 14 (.slice aa l.length ac)) 15 (.int .i64 (l.length : Nat))) 16 (.int .i64 (i : Nat))) ∧ l.length - i = k_ ∧ (i ≤ l.length) ∧ (GL P_raw H base 113 55 W6.heap.size W6 vt rows) ∧ (RWs P_oacct 55 Hk6 rows (expL (l.take i))) ∧ (∀ q, some q = vt.ownBlock → ¬ Hk6.has q) ∧ Go (fun k => base ≤ k) w H W6 Hk6) (l.length - (0)) ?_ ?_
        · exact ⟨g, _, (.slice none 0 0), [], 0, rfl, rfl, Nat.zero_le _, GL.nil, RWs.nil _ _ _, (fun q hq => by cases hq), Go.refl hF⟩
        · skip
          intro k_ s_ W6 hI K6 hK6
          obtain ⟨g, Hk6, vt, rows, i, rfl, rfl, hi9, hO, hRW, hnO, V6⟩ := hI
          have hle6 := V6.le
          replace hL0 := hL0.trans hle6
          replace G := G.trans V6 (by intro b hb; first | exact hb.elim | omega | (simp at hb ⊢; omega))
          replace hF := V6.fz
          replace kS := kS.ch V6.ch (by first | omega | exact hOo.ne (by omega))
          replace U := U.cc V6.ch (by intro b hb; first | exact hb.elim | omega | (simp at hb ⊢; omega))
          have hbW : base ≤ W6.heap.size := by rw [hbs]; exact V6.ch.size
          refine c_seq (fun K7 hK7 => ?_)
          exact (by
            refine c_region ?_
            refine l_step (y_lss (et g0 rfl) (et (gS rfl g0) rfl)) ?_
            refine l_nil ?_
            refine hK7 _ _ ?_
            refine c_seq (fun K8 hK8 => ?_)
            refine c_cond (et g0 rfl) (fun cB1 => ?_) (fun cB1 => ?_)
            · skip
              
              have hil : i < l.length := by have := of_decide_eq_true cB1; omega
              refine c_skip ?_
              refine hK8 _ _ ?_
              refine fg4 3 14 15 16 (gS rfl (gS rfl (gS rfl (gS rfl g0)))) (gS rfl (gS rfl (gS rfl g0))) (gS rfl (gS rfl g0)) (gS rfl g0) (fun g => ?_)
              refine c_seq (fun K10 hK10 => ?_)
              refine c_block (fun Q11 hQ11 => ?_)
              refine c_seq (fun K12 hK12 => ?_)
              exact (by
                refine c_region ?_
                have hF9 := hF
                have Vi13 : Go (fun k => base ≤ k) W6 Hk6 W6 Hk6 := Go.refl hF
                obtain ⟨Bw, hBw⟩ : ∃ Bw, Bw = W6.heap.size := ⟨_, rfl⟩
                rw [← hBw] at hO
                have hBb : base ≤ Bw := by rw [hBw]; exact hbW
                obtain ⟨bq, oq, r, ha0, hrow, hrl, hPA⟩ := (hAc.mono hL0).row hF9 (i := i) hil
                have hPone := acct_one hPA
                have hPA0 := hPA
                obtain ⟨vn1, vb1, vc1, vs1, hr1, hal, hnn1, hbb1, hcd1, hvs, hb21, hb22, hb23⟩ := hPA
                rw [hr1] at hrow hrl hPone hPA0
                have hsl8 := hsl9 _ (List.getElem_mem hil)
                obtain ⟨sva, svc, rfl, hsv1, hsv2⟩ := hvs.val
                obtain ⟨cda, cdc, rfl, hcl9⟩ := hcd1.sv.val
                refine l_step (y_idxSa ha0 Hvaa.underlying92 sz_107 (et (gS rfl (gS rfl g0)) rfl) (et g0 rfl) ?_) ?_
                omega
                refine l_step (y_loadR agg_107 sz_107 (et g0 rfl) hrl (at1R hrow)) ?_
                refine l_eff (e_alloc zr_107) (fun v14 w14 h14 => ?_)
                obtain ⟨b14, rfl, n14⟩ := h14
                have f14 : w.heap.size ≤ b14 := Nat.le_trans U.size n14.fresh
                have nb14 := hF.nb n14.fresh
                have fV6_14 := Nat.le_trans V6.ch.size n14.fresh
                have fVi13_14 := Nat.le_trans Vi13.ch.size n14.fresh
                replace G := G.tr (Go.ofUp hF n14.up)
                replace V6 := V6.tr (Go.ofUp hF n14.up)
                replace Vi13 := Vi13.tr (Go.ofUp hF n14.up)
                replace hF := hF.up n14.up
                replace kS := kS.up n14.up
                replace hO := hO.up n14.up
                replace U := U.tr n14.up
                have k14 := n14.blk
                exact (by
                  refine l_effN (e_store sz_107 (et g0 rfl) (cellsV (et (gS rfl g0) rfl) rfl) hrl (by exact hPone) k14 (by exact Nat.le_of_ble_eq_true rfl)) (fun v15 w15 h15 => ?_)
                  obtain ⟨rfl, x15⟩ := h15
                  replace kS := kS.ch x15.ch (by first | omega | (first | omega | exact hOo.ne (by omega)))
                  replace k14 := x15.blk.full (by rw [hrl]; rfl)
                  replace hO := hO.wr x15 (by first | omega | (right; omega))
                  replace G := G.wr x15 (by first | exact .inr f14 | exact .inl rfl | omega | (simp; omega)) nb14
                  replace V6 := V6.wr x15 (by first | exact .inr f14 | exact .inl rfl | omega | (simp; omega)) nb14
                  replace Vi13 := Vi13.wr x15 (by first | exact .inr f14 | exact .inl rfl | omega | (simp; omega)) nb14
                  replace hF := G.fz
                  replace U := U.st x15 f14
                  refine l_nil ?_
                  refine hK12 _ _ ?_
                  refine fg5 3 14 15 16 5 (gS rfl (gS rfl (gS rfl (gS rfl (gS rfl (gS rfl g0)))))) (gS rfl (gS rfl (gS rfl (gS rfl (gS rfl g0))))) (gS rfl (gS rfl (gS rfl (gS rfl g0)))) (gS rfl (gS rfl (gS rfl g0))) g0 (fun g => ?_)
                  refine c_seq (fun K16 hK16 => ?_)
                  refine c_seq (fun K17 hK17 => ?_)
                  exact (by
                    refine c_region ?_
                    refine l_eff (e_callV cal_23 (aC (et g0 rfl) aN) (yp_empty _ _ _ _ _ hF k14 hPA0)) (fun v18 w18 h18 => ?_)
                    obtain ⟨rfl, u18⟩ := h18
                    replace G := G.tr (Go.ofUp hF u18)
                    replace V6 := V6.tr (Go.ofUp hF u18)
                    replace Vi13 := Vi13.tr (Go.ofUp hF u18)
                    replace hF := hF.up u18
                    replace k14 := k14.up u18
                    replace kS := kS.up u18
                    replace hO := hO.up u18
                    replace U := U.tr u18
                    refine l_nil ?_
                    refine hK17 _ _ ?_
                    refine c_cond (et g0 rfl) (fun cB2 => ?_) (fun cB2 => ?_)
                    · skip
                      
                      have hem := cB2
                      refine c_exit ?_
                      refine hQ11 _ _ _ (in_exit ?_)
                      refine hK10 _ _ ?_
                      refine fg4 3 14 15 16 (gS rfl (gS rfl (gS rfl (gS rfl (gS rfl g0))))) (gS rfl (gS rfl (gS rfl (gS rfl g0)))) (gS rfl (gS rfl (gS rfl g0))) (gS rfl (gS rfl g0)) (fun g => ?_)
                      exact (by
                        refine c_region ?_
                        refine l_step (y_add (et g0 rfl) rfl (addIN (y := 1) ?_)) ?_
                        omega
                        refine l_step (y_moveV (et g0 rfl)) ?_
                        refine l_nil ?_
                        refine fK4 3 14 15 16 (gS rfl (gS rfl (gS rfl (gS rfl (gS rfl g0))))) (gS rfl (gS rfl (gS rfl (gS rfl g0)))) (gS rfl (gS rfl (gS rfl g0))) g0 (fun g => ?_)
                        exact hK6 (l.length - ((i + 1))) _ _ (by omega) ⟨g, _, _, _, (i + 1), rfl, rfl, by omega, hO.mono (by rw [hBw]; exact Vi13.ch.size), by rw [exp_skip hil hem]; exact hRW, fun q hq hh => (Vi13.new q hh).elim (hnO q hq) (fun h8 => by have h9 := (hO.lim q hq.symm).2; omega), V6⟩)
                    · skip
                      
                      have hem := cB2
                      refine c_skip ?_
                      refine hK16 _ _ ?_
                      refine fg5 3 14 15 16 5 (gS rfl (gS rfl (gS rfl (gS rfl (gS rfl g0))))) (gS rfl (gS rfl (gS rfl (gS rfl g0)))) (gS rfl (gS rfl (gS rfl g0))) (gS rfl (gS rfl g0)) (gS rfl g0) (fun g => ?_)
                      refine c_seq (fun K20 hK20 => ?_)
                      exact (by
                        refine fgv5 3 5 14 15 16 (gS rfl (gS rfl (gS rfl (gS rfl g0)))) g0 (gS rfl (gS rfl (gS rfl g0))) (gS rfl (gS rfl g0)) (gS rfl g0) (fun g z3 z5 z14 z15 z16 e3 e5 e14 e15 e16 => ?_)
                        refine c_drawJ (fun s_ w_ => ∃ (g : Nat → Value) (b22 : Nat) (qa : Option Addr) (qc : Nat) (Hj21 : Store), s_ = (upd (upd (upd (upd (upd (upd g 3 z3) 5 z5) 6 (.pointer (some ⟨b22, 0, none⟩))) 14 z14) 15 z15) 16 z16) ∧ Go No w18 Hk6 w_ Hj21 ∧ w18.heap.size ≤ b22 ∧ Blk w_ b22 ((oaC l[i] (.slice qa l[i].code.length qc) (.slice none 0 0)).toArray) ∧ ¬ Hj21.has b22 ∧ (BV Hj21 (.slice qa l[i].code.length qc) l[i].code)) Up 13 (.pure 0 (.pure 1 (.pure 2 (.pure 3 (.pure 5 (.pure 6 (.pure 8 (.pure 9 (.two 4 (.two 7 (.two 10 (.pure 11 (.eff 12 (.eff 13 .fin))) 12 (.eff 10 (.pure 11 (.eff 13 .fin)))) 12 (.eff 7 (.eff 10 (.pure 11 (.eff 13 .fin))))) 12 (.eff 4 (.eff 7 (.eff 10 (.pure 11 (.eff 13 .fin)))))))))))))) (by kernel_rfl) (fun w23 hu => ⟨Up.refl _, ?_⟩) ?_
                        · skip
                          subst e3 e5 e14 e15 e16
                          replace G := G.tr (Go.ofUp hF hu)
                          replace V6 := V6.tr (Go.ofUp hF hu)
                          replace Vi13 := Vi13.tr (Go.ofUp hF hu)
                          replace hF := hF.up hu
                          replace k14 := k14.up hu
                          replace kS := kS.up hu
                          replace hO := hO.up hu
                          replace U := U.tr hu
                          have SU := Up.refl w23
                          have V21 : Go No w18 Hk6 w23 Hk6 := ⟨hu, hF, Le.refl _, fun _ h => .inl h⟩
                          refine t_step (by exact rfl) (y_fld fld_107_0 (et (gS rfl (gS rfl (gS rfl g0))) rfl)) ?_
                          refine t_step (by exact rfl) (y_loadR agg_25 sz_25 (et g0 rfl) (by rw [length_bL, length_be]) (atSR (k14.row addr_row))) ?_
                          refine t_step (by exact rfl) (y_fld fld_107_1 (et (gS rfl (gS rfl (gS rfl (gS rfl (gS rfl g0))))) rfl)) ?_
                          refine t_step (by exact rfl) (y_load1 one_95 (et g0 rfl) (atS (k14.cell ((app20 (i := 0) rfl).trans rfl)))) ?_
                          refine t_step (by exact rfl) (y_fld fld_107_2 (et (gS rfl (gS rfl (gS rfl (gS rfl (gS rfl (gS rfl (gS rfl g0))))))) rfl)) ?_
                          refine t_step (by exact rfl) (y_load1 one_95 (et g0 rfl) (atS (k14.cell ((app20 (i := 1) rfl).trans rfl)))) ?_
                          refine t_step (by exact rfl) (y_fld fld_107_3 (et (gS rfl (gS rfl (gS rfl (gS rfl (gS rfl (gS rfl (gS rfl (gS rfl (gS rfl g0))))))))) rfl)) ?_
                          refine t_step (by exact rfl) (y_load1 one_38 (et g0 rfl) (atS (k14.cell ((app20 (i := 2) rfl).trans rfl)))) ?_
                          refine t_two ?_ ?_
                          · skip
                            refine t_eff (by exact rfl) (e_callV cal_24 (aC (et (gS rfl (gS rfl (gS rfl (gS rfl g0)))) rfl) aN) (yp_small hF hnn1 (bd_sm (bd_64 hb21) (by decide)))) (fun v24 w24 h24 => ?_)
                            obtain ⟨rfl, u24⟩ := h24
                            replace G := G.tr (Go.ofUp hF u24)
                            replace V6 := V6.tr (Go.ofUp hF u24)
                            replace Vi13 := Vi13.tr (Go.ofUp hF u24)
                            replace V21 := V21.tr (Go.ofUp hF u24)
                            replace hF := hF.up u24
                            replace k14 := k14.up u24
                            replace kS := kS.up u24
                            replace hO := hO.up u24
                            replace U := U.tr u24
                            rw [lo_small hb21]
                            refine ⟨.inr (SU.tr u24), ?_⟩
                            replace SU := SU.tr u24
                            refine t_two ?_ ?_
                            · skip
                              refine t_eff (by exact rfl) (e_callV cal_25 (aC (et (gS rfl (gS rfl (gS rfl g0))) rfl) aN) (yp_word hF hbb1 (bd_W hb22))) (fun v25 w25 h25 => ?_)
                              obtain ⟨rfl, u25⟩ := h25
                              replace G := G.tr (Go.ofUp hF u25)
                              replace V6 := V6.tr (Go.ofUp hF u25)
                              replace Vi13 := Vi13.tr (Go.ofUp hF u25)
                              replace V21 := V21.tr (Go.ofUp hF u25)
                              replace hF := hF.up u25
                              replace k14 := k14.up u25
                              replace kS := kS.up u25
                              replace hO := hO.up u25
                              replace U := U.tr u25
                              refine ⟨.inr (SU.tr u25), ?_⟩
                              replace SU := SU.tr u25
                              refine t_two ?_ ?_
                              · skip
                                refine t_eff (by exact rfl) (e_callV cal_26 (aC (et (gS rfl (gS rfl g0)) rfl) aN) (yp_bytes hF hcd1 (by omega))) (fun v26 w26 h26 => ?_)
                                obtain ⟨H26, g26, b926⟩ := h26
                                have hlew26 := g26.le
                                replace nb14 := g26.nb nb14 k14.lt
                                replace hRW := hRW.mono hlew26
                                replace hnn1 := hnn1.mono hlew26
                                replace hbb1 := hbb1.mono hlew26
                                replace hcd1 := hcd1.mono hlew26
                                replace hvs := hvs.mono hlew26
                                replace hL0 := hL0.trans hlew26
                                replace k14 := k14.up g26.up
                                replace kS := kS.up g26.up
                                replace hO := hO.up g26.up
                                replace U := U.tr g26.up
                                replace G := G.tr g26
                                replace V6 := V6.tr g26
                                replace Vi13 := Vi13.tr g26
                                replace V21 := V21.tr g26
                                replace hF := g26.fz
                                obtain ⟨za, zc, rfl, hzl⟩ := b926.sv.val
                                refine ⟨.inr (SU.tr g26.up), ?_⟩
                                replace SU := SU.tr g26.up
                                refine t_step (by exact rfl) (y_bld (bC (et (gS rfl (gS rfl (gS rfl (gS rfl (gS rfl (gS rfl (gS rfl (gS rfl (gS rfl g0))))))))) rfl) (bC (et (gS rfl (gS rfl g0)) rfl) (bC (et (gS rfl g0) rfl) (bC (et g0 rfl) bN)))) (bld_oa (A := l[i]) rfl)) ?_
                                refine t_one ?_
                                refine t_eff (by exact rfl) (e_alloc zr_113) (fun v27 w27 h27 => ?_)
                                obtain ⟨b27, rfl, n27⟩ := h27
                                have d14_27 : b14 < b27 := Nat.lt_of_lt_of_le k14.lt n27.fresh
                                have f27 : w.heap.size ≤ b27 := Nat.le_trans U.size n27.fresh
                                have nb27 := hF.nb n27.fresh
                                have fS27 := Nat.le_trans SU.size n27.fresh
                                have fV6_27 := Nat.le_trans V6.ch.size n27.fresh
                                have fVi13_27 := Nat.le_trans Vi13.ch.size n27.fresh
                                have fV21_27 := Nat.le_trans V21.ch.size n27.fresh
                                replace G := G.tr (Go.ofUp hF n27.up)
                                replace V6 := V6.tr (Go.ofUp hF n27.up)
                                replace Vi13 := Vi13.tr (Go.ofUp hF n27.up)
                                replace V21 := V21.tr (Go.ofUp hF n27.up)
                                replace hF := hF.up n27.up
                                replace k14 := k14.up n27.up
                                replace kS := kS.up n27.up
                                replace hO := hO.up n27.up
                                replace U := U.tr n27.up
                                have k27 := n27.blk
                                refine ⟨.inr (SU.tr n27.up), ?_⟩
                                replace SU := SU.tr n27.up
                                refine t_one ?_
                                refine t_effN (by exact rfl) (e_store sz_113 (et g0 rfl) (cellsV (et (gS rfl g0) rfl) rfl) oaC_len (by exact oaC_one rfl rfl) k27 (by exact Nat.le_of_ble_eq_true rfl)) (fun v28 w28 h28 => ?_)
                                obtain ⟨rfl, x28⟩ := h28
                                replace k14 := k14.ch x28.ch (by omega)
                                replace kS := kS.ch x28.ch (by first | omega | (first | omega | exact hOo.ne (by omega)))
                                replace k27 := x28.blk.full (by rw [oaC_len]; rfl)
                                replace hO := hO.wr x28 (by first | omega | (right; omega))
                                replace G := G.wr x28 (by first | exact .inr f27 | exact .inl rfl | omega | (simp; omega)) nb27
                                replace V6 := V6.wr x28 (by first | exact .inr f27 | exact .inl rfl | omega | (simp; omega)) nb27
                                replace Vi13 := Vi13.wr x28 (by first | exact .inr f27 | exact .inl rfl | omega | (simp; omega)) nb27
                                replace V21 := V21.wr x28 (by first | exact .inr f27 | exact .inl rfl | omega | (simp; omega)) nb27
                                replace hF := G.fz
                                replace U := U.st x28 f27
                                refine ⟨.inl rfl, ?_⟩
                                refine tl6 3 5 6 14 15 16 (gS rfl (gS rfl (gS rfl (gS rfl (gS rfl (gS rfl (gS rfl (gS rfl (gS rfl (gS rfl (gS rfl (gS rfl (gS rfl (gS rfl (gS rfl (gS rfl (gS rfl g0))))))))))))))))) (gS rfl (gS rfl (gS rfl (gS rfl (gS rfl (gS rfl (gS rfl (gS rfl (gS rfl (gS rfl (gS rfl (gS rfl (gS rfl (gS rfl (gS rfl (gS rfl g0)))))))))))))))) g0 (gS rfl (gS rfl (gS rfl (gS rfl (gS rfl (gS rfl (gS rfl (gS rfl (gS rfl (gS rfl (gS rfl (gS rfl (gS rfl (gS rfl (gS rfl g0))))))))))))))) (gS rfl (gS rfl (gS rfl (gS rfl (gS rfl (gS rfl (gS rfl (gS rfl (gS rfl (gS rfl (gS rfl (gS rfl (gS rfl (gS rfl g0)))))))))))))) (gS rfl (gS rfl (gS rfl (gS rfl (gS rfl (gS rfl (gS rfl (gS rfl (gS rfl (gS rfl (gS rfl (gS rfl (gS rfl g0))))))))))))) (fun g => ?_)
                                exact ⟨g, _, _, _, _, rfl, V21, Nat.le_trans hu.size fS27, k27, nb27, b926⟩
                              · skip
                                refine t_eff (by exact rfl) (e_alloc zr_113) (fun v29 w29 h29 => ?_)
                                obtain ⟨b29, rfl, n29⟩ := h29
                                have d14_29 : b14 < b29 := Nat.lt_of_lt_of_le k14.lt n29.fresh
                                have f29 : w.heap.size ≤ b29 := Nat.le_trans U.size n29.fresh
                                have nb29 := hF.nb n29.fresh
                                have fS29 := Nat.le_trans SU.size n29.fresh
                                have fV6_29 := Nat.le_trans V6.ch.size n29.fresh
                                have fVi13_29 := Nat.le_trans Vi13.ch.size n29.fresh
                                have fV21_29 := Nat.le_trans V21.ch.size n29.fresh
                                replace G := G.tr (Go.ofUp hF n29.up)
                                replace V6 := V6.tr (Go.ofUp hF n29.up)
                                replace Vi13 := Vi13.tr (Go.ofUp hF n29.up)
                                replace V21 := V21.tr (Go.ofUp hF n29.up)
                                replace hF := hF.up n29.up
                                replace k14 := k14.up n29.up
                                replace kS := kS.up n29.up
                                replace hO := hO.up n29.up
                                replace U := U.tr n29.up
                                have k29 := n29.blk
                                refine ⟨.inr (SU.tr n29.up), ?_⟩
                                replace SU := SU.tr n29.up
                                refine t_one ?_
                                refine t_eff (by exact rfl) (e_callV cal_26 (aC (et (gS rfl (gS rfl (gS rfl g0))) rfl) aN) (yp_bytes hF hcd1 (by omega))) (fun v30 w30 h30 => ?_)
                                obtain ⟨H30, g30, b930⟩ := h30
                                have hlew30 := g30.le
                                replace nb14 := g30.nb nb14 k14.lt
                                replace nb29 := g30.nb nb29 k29.lt
                                replace hRW := hRW.mono hlew30
                                replace hnn1 := hnn1.mono hlew30
                                replace hbb1 := hbb1.mono hlew30
                                replace hcd1 := hcd1.mono hlew30
                                replace hvs := hvs.mono hlew30
                                replace hL0 := hL0.trans hlew30
                                replace k14 := k14.up g30.up
                                replace k29 := k29.up g30.up
                                replace kS := kS.up g30.up
                                replace hO := hO.up g30.up
                                replace U := U.tr g30.up
                                replace G := G.tr g30
                                replace V6 := V6.tr g30
                                replace Vi13 := Vi13.tr g30
                                replace V21 := V21.tr g30
                                replace hF := g30.fz
                                obtain ⟨za, zc, rfl, hzl⟩ := b930.sv.val
                                refine ⟨.inr (SU.tr g30.up), ?_⟩
                                replace SU := SU.tr g30.up
                                refine t_step (by exact rfl) (y_bld (bC (et (gS rfl (gS rfl (gS rfl (gS rfl (gS rfl (gS rfl (gS rfl (gS rfl (gS rfl (gS rfl g0)))))))))) rfl) (bC (et (gS rfl (gS rfl (gS rfl g0))) rfl) (bC (et (gS rfl (gS rfl g0)) rfl) (bC (et g0 rfl) bN)))) (bld_oa (A := l[i]) rfl)) ?_
                                refine t_one ?_
                                refine t_effN (by exact rfl) (e_store sz_113 (et (gS rfl (gS rfl g0)) rfl) (cellsV (et g0 rfl) rfl) oaC_len (by exact oaC_one rfl rfl) k29 (by exact Nat.le_of_ble_eq_true rfl)) (fun v31 w31 h31 => ?_)
                                obtain ⟨rfl, x31⟩ := h31
                                replace k14 := k14.ch x31.ch (by omega)
                                replace kS := kS.ch x31.ch (by first | omega | (first | omega | exact hOo.ne (by omega)))
                                replace k29 := x31.blk.full (by rw [oaC_len]; rfl)
                                replace hO := hO.wr x31 (by first | omega | (right; omega))
                                replace G := G.wr x31 (by first | exact .inr f29 | exact .inl rfl | omega | (simp; omega)) nb29
                                replace V6 := V6.wr x31 (by first | exact .inr f29 | exact .inl rfl | omega | (simp; omega)) nb29
                                replace Vi13 := Vi13.wr x31 (by first | exact .inr f29 | exact .inl rfl | omega | (simp; omega)) nb29
                                replace V21 := V21.wr x31 (by first | exact .inr f29 | exact .inl rfl | omega | (simp; omega)) nb29
                                replace hF := G.fz
                                replace U := U.st x31 f29
                                refine ⟨.inl rfl, ?_⟩
                                refine tl6 3 5 6 14 15 16 (gS rfl (gS rfl (gS rfl (gS rfl (gS rfl (gS rfl (gS rfl (gS rfl (gS rfl (gS rfl (gS rfl (gS rfl (gS rfl (gS rfl (gS rfl (gS rfl (gS rfl g0))))))))))))))))) (gS rfl (gS rfl (gS rfl (gS rfl (gS rfl (gS rfl (gS rfl (gS rfl (gS rfl (gS rfl (gS rfl (gS rfl (gS rfl (gS rfl (gS rfl (gS rfl g0)))))))))))))))) (gS rfl (gS rfl g0)) (gS rfl (gS rfl (gS rfl (gS rfl (gS rfl (gS rfl (gS rfl (gS rfl (gS rfl (gS rfl (gS rfl (gS rfl (gS rfl (gS rfl (gS rfl g0))))))))))))))) (gS rfl (gS rfl (gS rfl (gS rfl (gS rfl (gS rfl (gS rfl (gS rfl (gS rfl (gS rfl (gS rfl (gS rfl (gS rfl (gS rfl g0)))))))))))))) (gS rfl (gS rfl (gS rfl (gS rfl (gS rfl (gS rfl (gS rfl (gS rfl (gS rfl (gS rfl (gS rfl (gS rfl (gS rfl g0))))))))))))) (fun g => ?_)
                                exact ⟨g, _, _, _, _, rfl, V21, Nat.le_trans hu.size fS29, k29, nb29, b930⟩
                            · skip
                              refine t_eff (by exact rfl) (e_alloc zr_113) (fun v32 w32 h32 => ?_)
                              obtain ⟨b32, rfl, n32⟩ := h32
                              have d14_32 : b14 < b32 := Nat.lt_of_lt_of_le k14.lt n32.fresh
                              have f32 : w.heap.size ≤ b32 := Nat.le_trans U.size n32.fresh
                              have nb32 := hF.nb n32.fresh
                              have fS32 := Nat.le_trans SU.size n32.fresh
                              have fV6_32 := Nat.le_trans V6.ch.size n32.fresh
                              have fVi13_32 := Nat.le_trans Vi13.ch.size n32.fresh
                              have fV21_32 := Nat.le_trans V21.ch.size n32.fresh
                              replace G := G.tr (Go.ofUp hF n32.up)
                              replace V6 := V6.tr (Go.ofUp hF n32.up)
                              replace Vi13 := Vi13.tr (Go.ofUp hF n32.up)
                              replace V21 := V21.tr (Go.ofUp hF n32.up)
                              replace hF := hF.up n32.up
                              replace k14 := k14.up n32.up
                              replace kS := kS.up n32.up
                              replace hO := hO.up n32.up
                              replace U := U.tr n32.up
                              have k32 := n32.blk
                              refine ⟨.inr (SU.tr n32.up), ?_⟩
                              replace SU := SU.tr n32.up
                              refine t_one ?_
                              refine t_eff (by exact rfl) (e_callV cal_25 (aC (et (gS rfl (gS rfl (gS rfl (gS rfl g0)))) rfl) aN) (yp_word hF hbb1 (bd_W hb22))) (fun v33 w33 h33 => ?_)
                              obtain ⟨rfl, u33⟩ := h33
                              replace G := G.tr (Go.ofUp hF u33)
                              replace V6 := V6.tr (Go.ofUp hF u33)
                              replace Vi13 := Vi13.tr (Go.ofUp hF u33)
                              replace V21 := V21.tr (Go.ofUp hF u33)
                              replace hF := hF.up u33
                              replace k14 := k14.up u33
                              replace k32 := k32.up u33
                              replace kS := kS.up u33
                              replace hO := hO.up u33
                              replace U := U.tr u33
                              refine ⟨.inr (SU.tr u33), ?_⟩
                              replace SU := SU.tr u33
                              refine t_one ?_
                              refine t_eff (by exact rfl) (e_callV cal_26 (aC (et (gS rfl (gS rfl (gS rfl g0))) rfl) aN) (yp_bytes hF hcd1 (by omega))) (fun v34 w34 h34 => ?_)
                              obtain ⟨H34, g34, b934⟩ := h34
                              have hlew34 := g34.le
                              replace nb14 := g34.nb nb14 k14.lt
                              replace nb32 := g34.nb nb32 k32.lt
                              replace hRW := hRW.mono hlew34
                              replace hnn1 := hnn1.mono hlew34
                              replace hbb1 := hbb1.mono hlew34
                              replace hcd1 := hcd1.mono hlew34
                              replace hvs := hvs.mono hlew34
                              replace hL0 := hL0.trans hlew34
                              replace k14 := k14.up g34.up
                              replace k32 := k32.up g34.up
                              replace kS := kS.up g34.up
                              replace hO := hO.up g34.up
                              replace U := U.tr g34.up
                              replace G := G.tr g34
                              replace V6 := V6.tr g34
                              replace Vi13 := Vi13.tr g34
                              replace V21 := V21.tr g34
                              replace hF := g34.fz
                              obtain ⟨za, zc, rfl, hzl⟩ := b934.sv.val
                              refine ⟨.inr (SU.tr g34.up), ?_⟩
                              replace SU := SU.tr g34.up
                              refine t_step (by exact rfl) (y_bld (bC (et (gS rfl (gS rfl (gS rfl (gS rfl (gS rfl (gS rfl (gS rfl (gS rfl (gS rfl (gS rfl g0)))))))))) rfl) (bC (et (gS rfl (gS rfl (gS rfl g0))) rfl) (bC (et (gS rfl g0) rfl) (bC (et g0 rfl) bN)))) (bld_oa (A := l[i]) rfl)) ?_
                              refine t_one ?_
                              refine t_effN (by exact rfl) (e_store sz_113 (et (gS rfl (gS rfl (gS rfl g0))) rfl) (cellsV (et g0 rfl) rfl) oaC_len (by exact oaC_one rfl rfl) k32 (by exact Nat.le_of_ble_eq_true rfl)) (fun v35 w35 h35 => ?_)
                              obtain ⟨rfl, x35⟩ := h35
                              replace k14 := k14.ch x35.ch (by omega)
                              replace kS := kS.ch x35.ch (by first | omega | (first | omega | exact hOo.ne (by omega)))
                              replace k32 := x35.blk.full (by rw [oaC_len]; rfl)
                              replace hO := hO.wr x35 (by first | omega | (right; omega))
                              replace G := G.wr x35 (by first | exact .inr f32 | exact .inl rfl | omega | (simp; omega)) nb32
                              replace V6 := V6.wr x35 (by first | exact .inr f32 | exact .inl rfl | omega | (simp; omega)) nb32
                              replace Vi13 := Vi13.wr x35 (by first | exact .inr f32 | exact .inl rfl | omega | (simp; omega)) nb32
                              replace V21 := V21.wr x35 (by first | exact .inr f32 | exact .inl rfl | omega | (simp; omega)) nb32
                              replace hF := G.fz
                              replace U := U.st x35 f32
                              refine ⟨.inl rfl, ?_⟩
                              refine tl6 3 5 6 14 15 16 (gS rfl (gS rfl (gS rfl (gS rfl (gS rfl (gS rfl (gS rfl (gS rfl (gS rfl (gS rfl (gS rfl (gS rfl (gS rfl (gS rfl (gS rfl (gS rfl (gS rfl g0))))))))))))))))) (gS rfl (gS rfl (gS rfl (gS rfl (gS rfl (gS rfl (gS rfl (gS rfl (gS rfl (gS rfl (gS rfl (gS rfl (gS rfl (gS rfl (gS rfl (gS rfl g0)))))))))))))))) (gS rfl (gS rfl (gS rfl g0))) (gS rfl (gS rfl (gS rfl (gS rfl (gS rfl (gS rfl (gS rfl (gS rfl (gS rfl (gS rfl (gS rfl (gS rfl (gS rfl (gS rfl (gS rfl g0))))))))))))))) (gS rfl (gS rfl (gS rfl (gS rfl (gS rfl (gS rfl (gS rfl (gS rfl (gS rfl (gS rfl (gS rfl (gS rfl (gS rfl (gS rfl g0)))))))))))))) (gS rfl (gS rfl (gS rfl (gS rfl (gS rfl (gS rfl (gS rfl (gS rfl (gS rfl (gS rfl (gS rfl (gS rfl (gS rfl g0))))))))))))) (fun g => ?_)
                              exact ⟨g, _, _, _, _, rfl, V21, Nat.le_trans hu.size fS32, k32, nb32, b934⟩
                          · skip
                            refine t_eff (by exact rfl) (e_alloc zr_113) (fun v36 w36 h36 => ?_)
                            obtain ⟨b36, rfl, n36⟩ := h36
                            have d14_36 : b14 < b36 := Nat.lt_of_lt_of_le k14.lt n36.fresh
                            have f36 : w.heap.size ≤ b36 := Nat.le_trans U.size n36.fresh
                            have nb36 := hF.nb n36.fresh
                            have fS36 := Nat.le_trans SU.size n36.fresh
                            have fV6_36 := Nat.le_trans V6.ch.size n36.fresh
                            have fVi13_36 := Nat.le_trans Vi13.ch.size n36.fresh
                            have fV21_36 := Nat.le_trans V21.ch.size n36.fresh
                            replace G := G.tr (Go.ofUp hF n36.up)
                            replace V6 := V6.tr (Go.ofUp hF n36.up)
                            replace Vi13 := Vi13.tr (Go.ofUp hF n36.up)
                            replace V21 := V21.tr (Go.ofUp hF n36.up)
                            replace hF := hF.up n36.up
                            replace k14 := k14.up n36.up
                            replace kS := kS.up n36.up
                            replace hO := hO.up n36.up
                            replace U := U.tr n36.up
                            have k36 := n36.blk
                            refine ⟨.inr (SU.tr n36.up), ?_⟩
                            replace SU := SU.tr n36.up
                            refine t_one ?_
                            refine t_eff (by exact rfl) (e_callV cal_24 (aC (et (gS rfl (gS rfl (gS rfl (gS rfl (gS rfl g0))))) rfl) aN) (yp_small hF hnn1 (bd_sm (bd_64 hb21) (by decide)))) (fun v37 w37 h37 => ?_)
                            obtain ⟨rfl, u37⟩ := h37
                            replace G := G.tr (Go.ofUp hF u37)
                            replace V6 := V6.tr (Go.ofUp hF u37)
                            replace Vi13 := Vi13.tr (Go.ofUp hF u37)
                            replace V21 := V21.tr (Go.ofUp hF u37)
                            replace hF := hF.up u37
                            replace k14 := k14.up u37
                            replace k36 := k36.up u37
                            replace kS := kS.up u37
                            replace hO := hO.up u37
                            replace U := U.tr u37
                            rw [lo_small hb21]
                            refine ⟨.inr (SU.tr u37), ?_⟩
                            replace SU := SU.tr u37
                            refine t_one ?_
                            refine t_eff (by exact rfl) (e_callV cal_25 (aC (et (gS rfl (gS rfl (gS rfl (gS rfl g0)))) rfl) aN) (yp_word hF hbb1 (bd_W hb22))) (fun v38 w38 h38 => ?_)
                            obtain ⟨rfl, u38⟩ := h38
                            replace G := G.tr (Go.ofUp hF u38)
                            replace V6 := V6.tr (Go.ofUp hF u38)
                            replace Vi13 := Vi13.tr (Go.ofUp hF u38)
                            replace V21 := V21.tr (Go.ofUp hF u38)
                            replace hF := hF.up u38
                            replace k14 := k14.up u38
                            replace k36 := k36.up u38
                            replace kS := kS.up u38
                            replace hO := hO.up u38
                            replace U := U.tr u38
                            refine ⟨.inr (SU.tr u38), ?_⟩
                            replace SU := SU.tr u38
                            refine t_one ?_
                            refine t_eff (by exact rfl) (e_callV cal_26 (aC (et (gS rfl (gS rfl (gS rfl g0))) rfl) aN) (yp_bytes hF hcd1 (by omega))) (fun v39 w39 h39 => ?_)
                            obtain ⟨H39, g39, b939⟩ := h39
                            have hlew39 := g39.le
                            replace nb14 := g39.nb nb14 k14.lt
                            replace nb36 := g39.nb nb36 k36.lt
                            replace hRW := hRW.mono hlew39
                            replace hnn1 := hnn1.mono hlew39
                            replace hbb1 := hbb1.mono hlew39
                            replace hcd1 := hcd1.mono hlew39
                            replace hvs := hvs.mono hlew39
                            replace hL0 := hL0.trans hlew39
                            replace k14 := k14.up g39.up
                            replace k36 := k36.up g39.up
                            replace kS := kS.up g39.up
                            replace hO := hO.up g39.up
                            replace U := U.tr g39.up
                            replace G := G.tr g39
                            replace V6 := V6.tr g39
                            replace Vi13 := Vi13.tr g39
                            replace V21 := V21.tr g39
                            replace hF := g39.fz
                            obtain ⟨za, zc, rfl, hzl⟩ := b939.sv.val
                            refine ⟨.inr (SU.tr g39.up), ?_⟩
                            replace SU := SU.tr g39.up
                            refine t_step (by exact rfl) (y_bld (bC (et (gS rfl (gS rfl (gS rfl (gS rfl (gS rfl (gS rfl (gS rfl (gS rfl (gS rfl (gS rfl g0)))))))))) rfl) (bC (et (gS rfl (gS rfl g0)) rfl) (bC (et (gS rfl g0) rfl) (bC (et g0 rfl) bN)))) (bld_oa (A := l[i]) rfl)) ?_
                            refine t_one ?_
                            refine t_effN (by exact rfl) (e_store sz_113 (et (gS rfl (gS rfl (gS rfl (gS rfl g0)))) rfl) (cellsV (et g0 rfl) rfl) oaC_len (by exact oaC_one rfl rfl) k36 (by exact Nat.le_of_ble_eq_true rfl)) (fun v40 w40 h40 => ?_)
                            obtain ⟨rfl, x40⟩ := h40
                            replace k14 := k14.ch x40.ch (by omega)
                            replace kS := kS.ch x40.ch (by first | omega | (first | omega | exact hOo.ne (by omega)))
                            replace k36 := x40.blk.full (by rw [oaC_len]; rfl)
                            replace hO := hO.wr x40 (by first | omega | (right; omega))
                            replace G := G.wr x40 (by first | exact .inr f36 | exact .inl rfl | omega | (simp; omega)) nb36
                            replace V6 := V6.wr x40 (by first | exact .inr f36 | exact .inl rfl | omega | (simp; omega)) nb36
                            replace Vi13 := Vi13.wr x40 (by first | exact .inr f36 | exact .inl rfl | omega | (simp; omega)) nb36
                            replace V21 := V21.wr x40 (by first | exact .inr f36 | exact .inl rfl | omega | (simp; omega)) nb36
                            replace hF := G.fz
                            replace U := U.st x40 f36
                            refine ⟨.inl rfl, ?_⟩
                            refine tl6 3 5 6 14 15 16 (gS rfl (gS rfl (gS rfl (gS rfl (gS rfl (gS rfl (gS rfl (gS rfl (gS rfl (gS rfl (gS rfl (gS rfl (gS rfl (gS rfl (gS rfl (gS rfl (gS rfl g0))))))))))))))))) (gS rfl (gS rfl (gS rfl (gS rfl (gS rfl (gS rfl (gS rfl (gS rfl (gS rfl (gS rfl (gS rfl (gS rfl (gS rfl (gS rfl (gS rfl (gS rfl g0)))))))))))))))) (gS rfl (gS rfl (gS rfl (gS rfl g0)))) (gS rfl (gS rfl (gS rfl (gS rfl (gS rfl (gS rfl (gS rfl (gS rfl (gS rfl (gS rfl (gS rfl (gS rfl (gS rfl (gS rfl (gS rfl g0))))))))))))))) (gS rfl (gS rfl (gS rfl (gS rfl (gS rfl (gS rfl (gS rfl (gS rfl (gS rfl (gS rfl (gS rfl (gS rfl (gS rfl (gS rfl g0)))))))))))))) (gS rfl (gS rfl (gS rfl (gS rfl (gS rfl (gS rfl (gS rfl (gS rfl (gS rfl (gS rfl (gS rfl (gS rfl (gS rfl g0))))))))))))) (fun g => ?_)
                            exact ⟨g, _, _, _, _, rfl, V21, Nat.le_trans hu.size fS36, k36, nb36, b939⟩
                        intro s_ w41 hJ
                        obtain ⟨g, b22, qa, qc, Hj21, rfl, V21, fn22, kn22, nb22, hbc⟩ := hJ
                        subst e3 e5 e14 e15 e16
                        have d14_22 : b14 < b22 := Nat.lt_of_lt_of_le k14.lt fn22
                        have f22 : w.heap.size ≤ b22 := Nat.le_trans U.size fn22
                        have fV6_22 := Nat.le_trans V6.ch.size fn22
                        have fVi13_22 := Nat.le_trans Vi13.ch.size fn22
                        have hlew41 := V21.le
                        replace nb14 := V21.nb nb14 k14.lt
                        replace hRW := hRW.mono hlew41
                        replace hnn1 := hnn1.mono hlew41
                        replace hbb1 := hbb1.mono hlew41
                        replace hcd1 := hcd1.mono hlew41
                        replace hvs := hvs.mono hlew41
                        replace hL0 := hL0.trans hlew41
                        replace k14 := k14.up V21.up
                        replace kS := kS.up V21.up
                        replace hO := hO.up V21.up
                        replace U := U.tr V21.up
                        replace G := G.tr V21
                        replace V6 := V6.tr V21
                        replace Vi13 := Vi13.tr V21
                        replace hF := V21.fz
                        have k22 := kn22
                        refine hK20 _ _ ?_
                        refine c_seq (fun K42 hK42 => ?_)
                        refine c_seq (fun K43 hK43 => ?_)
                        exact (by
                          refine c_region ?_
                          refine l_step (y_fld fld_107_4 (et (gS rfl (gS rfl (gS rfl (gS rfl g0)))) rfl)) ?_
                          refine l_step (y_load1 one_105 (et g0 rfl) (at1 (k14.cell ((app20 (i := 3) rfl).trans rfl)))) ?_
                          refine l_step (y_len Hvaa.underlying105 (et g0 rfl)) ?_
                          refine l_step y_moveC ?_
                          refine l_nil ?_
                          refine hK43 _ _ ?_
                          refine fg8 3 6 14 15 16 34 35 36 (gS rfl (gS rfl (gS rfl (gS rfl (gS rfl (gS rfl (gS rfl (gS rfl (gS rfl g0))))))))) (gS rfl (gS rfl (gS rfl (gS rfl (gS rfl (gS rfl (gS rfl g0))))))) (gS rfl (gS rfl (gS rfl (gS rfl (gS rfl (gS rfl g0)))))) (gS rfl (gS rfl (gS rfl (gS rfl (gS rfl g0))))) (gS rfl (gS rfl (gS rfl (gS rfl g0)))) (gS rfl (gS rfl g0)) (gS rfl g0) g0 (fun g => ?_)
                          refine c_block (fun Q44 hQ44 => ?_)
                          refine fg8 3 6 14 15 16 34 35 36 (gS rfl (gS rfl (gS rfl (gS rfl (gS rfl (gS rfl (gS rfl g0))))))) (gS rfl (gS rfl (gS rfl (gS rfl (gS rfl (gS rfl g0)))))) (gS rfl (gS rfl (gS rfl (gS rfl (gS rfl g0))))) (gS rfl (gS rfl (gS rfl (gS rfl g0)))) (gS rfl (gS rfl (gS rfl g0))) (gS rfl (gS rfl g0)) (gS rfl g0) g0 (fun g => ?_)
                          obtain ⟨base2, hbs2⟩ : ∃ base2, base2 = w41.heap.size := ⟨_, rfl⟩
                          have hB6 : Bw ≤ b22 := by rw [hBw]; exact fVi13_22
                          have hB2 : Bw ≤ base2 := by rw [hBw, hbs2]; exact Vi13.ch.size
                          have hlt6 : b22 < base2 := by rw [hbs2]; exact k22.lt
                          have hlt5 : b14 < base2 := by rw [hbs2]; exact k14.lt
                          have hHb0 : ∀ q, Store.has _ q → q < base2 := fun q hq => by rw [hbs2]; exact hF.lt hq
                          have hbw2 : w.heap.size ≤ base2 := by rw [hbs2]; exact U.size
                          refine c_loop (fun k_ s_ W45 => ∃ (g : Nat → Value) (Hk45 : Store) (vq : Value) (j : Nat), s_ = (upd (upd (upd (upd (upd (upd (upd (upd g 3 z3) 6 (.pointer (some ⟨b22, 0, none⟩))) 14 (.slice aa l.length ac)) 15 (.int .i64 (l.length : Nat))) 16 (.int .i64 (i : Nat))) 34 (.slice sva l[i].slots.length svc)) 35 (.int .i64 (l[i].slots.length : Nat))) 36 (.int .i64 (j : Nat))) ∧ l[i].slots.length - j = k_ ∧ (j ≤ l[i].slots.length) ∧ (GL P_oslot H base2 117 64 W45.heap.size W45 vq (l[i].slots.take j)) ∧ (∀ q, Hk45.has q → q < base2) ∧ Blk W45 b22 ((oaC l[i] (.slice qa l[i].code.length qc) vq).toArray) ∧ Go (fun k => k = b22 ∨ base2 ≤ k) w41 Hj21 W45 Hk45) (l[i].slots.length - (0)) ?_ ?_
                          · exact ⟨g, _, (.slice none 0 0), 0, rfl, rfl, Nat.zero_le _, by rw [List.take_zero]; exact GL.nil, hHb0, k22, Go.refl hF⟩
                          · skip
                            intro k_ s_ W45 hI K45 hK45
                            obtain ⟨g, Hk45, vq, j, rfl, rfl, hj, hI, hHb, nk22, V45⟩ := hI
                            have hle45 := V45.le
                            replace nb14 := V45.nb nb14 k14.lt
                            replace nb22 := V45.nb nb22 k22.lt
                            replace hRW := hRW.mono hle45
                            replace hnn1 := hnn1.mono hle45
                            replace hbb1 := hbb1.mono hle45
                            replace hcd1 := hcd1.mono hle45
                            replace hvs := hvs.mono hle45
                            replace hbc := hbc.mono hle45
                            replace hL0 := hL0.trans hle45
                            replace G := G.trans V45 (by intro b hb; first | exact hb.elim | omega | (simp at hb ⊢; omega))
                            replace V6 := V6.trans V45 (by intro b hb; first | exact hb.elim | omega | (simp at hb ⊢; omega))
                            replace Vi13 := Vi13.trans V45 (by intro b hb; first | exact hb.elim | omega | (simp at hb ⊢; omega))
                            replace hF := V45.fz
                            replace k14 := k14.ch V45.ch (by omega)
                            replace kS := kS.ch V45.ch (by first | omega | exact hOo.ne (by omega))
                            replace hO := hO.ch V45.ch (by first | omega | (intro q hq; omega))
                            replace k22 := nk22
                            replace U := U.cc V45.ch (by intro b hb; first | exact hb.elim | omega | (simp at hb ⊢; omega))
                            have hbW2 : base2 ≤ W45.heap.size := by rw [hbs2]; exact V45.ch.size
                            refine c_seq (fun K46 hK46 => ?_)
                            exact (by
                              refine c_region ?_
                              refine l_step (y_lss (et g0 rfl) (et (gS rfl g0) rfl)) ?_
                              refine l_nil ?_
                              refine hK46 _ _ ?_
                              refine c_seq (fun K47 hK47 => ?_)
                              refine c_cond (et g0 rfl) (fun cB3 => ?_) (fun cB3 => ?_)
                              · skip
                                
                                have hjl : j < l[i].slots.length := by have := of_decide_eq_true cB3; omega
                                refine c_skip ?_
                                refine hK47 _ _ ?_
                                refine fg8 3 6 14 15 16 34 35 36 (gS rfl (gS rfl (gS rfl (gS rfl (gS rfl (gS rfl (gS rfl (gS rfl g0)))))))) (gS rfl (gS rfl (gS rfl (gS rfl (gS rfl (gS rfl (gS rfl g0))))))) (gS rfl (gS rfl (gS rfl (gS rfl (gS rfl (gS rfl g0)))))) (gS rfl (gS rfl (gS rfl (gS rfl (gS rfl g0))))) (gS rfl (gS rfl (gS rfl (gS rfl g0)))) (gS rfl (gS rfl (gS rfl g0))) (gS rfl (gS rfl g0)) (gS rfl g0) (fun g => ?_)
                                refine c_seq (fun K49 hK49 => ?_)
                                refine c_block (fun Q50 hQ50 => ?_)
                                refine c_seq (fun K51 hK51 => ?_)
                                exact (by
                                  refine c_region ?_
                                  obtain ⟨Bi, hBi⟩ : ∃ Bi, Bi = W45.heap.size := ⟨_, rfl⟩
                                  rw [← hBi] at hI
                                  obtain ⟨bq2, oq2, r2, ha2, hrow2, hrl2, vk1, vv1, hr2, hk1, hv1, hkl, hvl9⟩ := hvs.row hF (i := j) hjl
                                  rw [hr2] at hrow2 hrl2
                                  refine l_step (y_idxSa ha2 Hvaa.underlying105 sz_115 (et (gS rfl (gS rfl g0)) rfl) (et g0 rfl) ?_) ?_
                                  omega
                                  refine l_step (y_loadR agg_115 sz_115 (et g0 rfl) rfl (at1R hrow2)) ?_
                                  refine l_eff (e_alloc zr_115) (fun v52 w52 h52 => ?_)
                                  obtain ⟨b52, rfl, n52⟩ := h52
                                  have d14_52 : b14 < b52 := Nat.lt_of_lt_of_le k14.lt n52.fresh
                                  have d22_52 : b22 < b52 := Nat.lt_of_lt_of_le k22.lt n52.fresh
                                  have f52 : w.heap.size ≤ b52 := Nat.le_trans U.size n52.fresh
                                  have nb52 := hF.nb n52.fresh
                                  have fV6_52 := Nat.le_trans V6.ch.size n52.fresh
                                  have fVi13_52 := Nat.le_trans Vi13.ch.size n52.fresh
                                  have fV45_52 := Nat.le_trans V45.ch.size n52.fresh
                                  replace G := G.tr (Go.ofUp hF n52.up)
                                  replace V6 := V6.tr (Go.ofUp hF n52.up)
                                  replace Vi13 := Vi13.tr (Go.ofUp hF n52.up)
                                  replace V45 := V45.tr (Go.ofUp hF n52.up)
                                  replace hF := hF.up n52.up
                                  replace k14 := k14.up n52.up
                                  replace k22 := k22.up n52.up
                                  replace kS := kS.up n52.up
                                  replace hO := hO.up n52.up
                                  replace hI := hI.up n52.up
                                  replace U := U.tr n52.up
                                  have k52 := n52.blk
                                  have hB52 : Bi ≤ b52 := by rw [hBi]; exact n52.fresh
                                  refine l_effN (e_store sz_115 (et g0 rfl) (cellsV (et (gS rfl g0) rfl) rfl) rfl (by exact one_two hk1.one1 hv1.one1) k52 (by exact Nat.le_of_ble_eq_true rfl)) (fun v53 w53 h53 => ?_)
                                  obtain ⟨rfl, x53⟩ := h53
                                  replace k14 := k14.ch x53.ch (by omega)
                                  replace k22 := k22.ch x53.ch (by omega)
                                  replace kS := kS.ch x53.ch (by first | omega | (first | omega | exact hOo.ne (by omega)))
                                  replace k52 := x53.blk.full rfl
                                  replace hO := hO.wr x53 (by first | omega | (right; omega))
                                  replace hI := hI.wr x53 (by first | omega | (right; omega))
                                  replace G := G.wr x53 (by first | exact .inr f52 | exact .inl rfl | omega | (simp; omega)) nb52
                                  replace V6 := V6.wr x53 (by first | exact .inr f52 | exact .inl rfl | omega | (simp; omega)) nb52
                                  replace Vi13 := Vi13.wr x53 (by first | exact .inr f52 | exact .inl rfl | omega | (simp; omega)) nb52
                                  replace V45 := V45.wr x53 (by first | exact .inr f52 | exact .inl rfl | omega | (simp; omega)) nb52
                                  replace hF := G.fz
                                  replace U := U.st x53 f52
                                  refine l_nil ?_
                                  refine hK51 _ _ ?_
                                  refine fg9 3 6 14 15 16 34 35 36 8 (gS rfl (gS rfl (gS rfl (gS rfl (gS rfl (gS rfl (gS rfl (gS rfl (gS rfl (gS rfl g0)))))))))) (gS rfl (gS rfl (gS rfl (gS rfl (gS rfl (gS rfl (gS rfl (gS rfl (gS rfl g0))))))))) (gS rfl (gS rfl (gS rfl (gS rfl (gS rfl (gS rfl (gS rfl (gS rfl g0)))))))) (gS rfl (gS rfl (gS rfl (gS rfl (gS rfl (gS rfl (gS rfl g0))))))) (gS rfl (gS rfl (gS rfl (gS rfl (gS rfl (gS rfl g0)))))) (gS rfl (gS rfl (gS rfl (gS rfl (gS rfl g0))))) (gS rfl (gS rfl (gS rfl (gS rfl g0)))) (gS rfl (gS rfl (gS rfl g0))) g0 (fun g => ?_)
                                  refine c_draw (Ch (fun k => some k = vq.ownBlock)) 12 [(0, true), (1, true), (2, true), (3, true), (5, true), (6, true), (4, false), (7, false), (8, true), (9, false), (10, false), (11, true), (12, false)] (by kernel_rfl) (fun w54 hu => ⟨Ch.refl _ _, ?_⟩)
                                  replace G := G.tr (Go.ofUp hF hu)
                                  replace V6 := V6.tr (Go.ofUp hF hu)
                                  replace Vi13 := Vi13.tr (Go.ofUp hF hu)
                                  replace V45 := V45.tr (Go.ofUp hF hu)
                                  replace hF := hF.up hu
                                  replace k14 := k14.up hu
                                  replace k22 := k22.up hu
                                  replace k52 := k52.up hu
                                  replace kS := kS.up hu
                                  replace hO := hO.up hu
                                  replace hI := hI.up hu
                                  replace U := U.tr hu
                                  have SU : (Ch (fun k => some k = vq.ownBlock)) w54 w54 := Ch.refl _ _
                                  exact (by
                                    refine p_step (by exact rfl) (y_fld fld_113_4 (et (gS rfl (gS rfl (gS rfl (gS rfl (gS rfl (gS rfl (gS rfl g0))))))) rfl)) ?_
                                    refine p_step (by exact rfl) (y_load1 one_111 (et g0 rfl) (atC (k22.cell oaC_sto) (by first | exact hI.ne (by omega) | exact hOo.ne (by omega) | omega))) ?_
                                    refine p_step (by exact rfl) (y_fld fld_115_0 (et (gS rfl (gS rfl g0)) rfl)) ?_
                                    refine p_step (by exact rfl) (y_load1 one_95 (et g0 rfl) (atC (k52.cell (show _ = some vk1 from rfl)) (by first | exact hI.ne (by omega) | exact hOo.ne (by omega) | omega))) ?_
                                    refine p_step (by exact rfl) (y_fld fld_115_1 (et (gS rfl (gS rfl (gS rfl (gS rfl g0)))) rfl)) ?_
                                    refine p_step (by exact rfl) (y_load1 one_95 (et g0 rfl) (atC (k52.cell (show _ = some vv1 from rfl)) (by first | exact hI.ne (by omega) | exact hOo.ne (by omega) | omega))) ?_
                                    refine p_eff (by exact rfl) (e_callV cal_25 (aC (et (gS rfl (gS rfl g0)) rfl) aN) (yp_word hF hk1 (bd_W hkl))) (fun v55 w55 h55 => ?_)
                                    obtain ⟨rfl, u55⟩ := h55
                                    replace G := G.tr (Go.ofUp hF u55)
                                    replace V6 := V6.tr (Go.ofUp hF u55)
                                    replace Vi13 := Vi13.tr (Go.ofUp hF u55)
                                    replace V45 := V45.tr (Go.ofUp hF u55)
                                    replace hF := hF.up u55
                                    replace k14 := k14.up u55
                                    replace k22 := k22.up u55
                                    replace k52 := k52.up u55
                                    replace kS := kS.up u55
                                    replace hO := hO.up u55
                                    replace hI := hI.up u55
                                    replace U := U.tr u55
                                    refine ⟨.inr (SU.tr u55), ?_⟩
                                    replace SU := SU.tr u55
                                    refine p_eff (by exact rfl) (e_callV cal_25 (aC (et (gS rfl g0) rfl) aN) (yp_word hF hv1 (bd_W hvl9))) (fun v56 w56 h56 => ?_)
                                    obtain ⟨rfl, u56⟩ := h56
                                    replace G := G.tr (Go.ofUp hF u56)
                                    replace V6 := V6.tr (Go.ofUp hF u56)
                                    replace Vi13 := Vi13.tr (Go.ofUp hF u56)
                                    replace V45 := V45.tr (Go.ofUp hF u56)
                                    replace hF := hF.up u56
                                    replace k14 := k14.up u56
                                    replace k22 := k22.up u56
                                    replace k52 := k52.up u56
                                    replace kS := kS.up u56
                                    replace hO := hO.up u56
                                    replace hI := hI.up u56
                                    replace U := U.tr u56
                                    refine ⟨.inr (SU.tr u56), ?_⟩
                                    replace SU := SU.tr u56
                                    exact (by
                                      have hb57 : ∀ w, (Instr.build 117 ([(0, (Value.agg (bL (be 32 l[i].slots[j].1)).toArray)), (1, (Value.agg (bL (be 32 l[i].slots[j].2)).toArray))] : List (Nat × Value)).toArray).run Hvaa.prog w = .ok (.agg ([(bL (be 32 l[i].slots[j].1)), (bL (be 32 l[i].slots[j].2))] : List (List Value)).flatten.toArray) w := bld_run zr_117 plc_117 (fill_flat (off := 0) (k := 32) (f := (List.replicate 32 (.int .u8 0))) (c := bL (be 32 l[i].slots[j].1)) (v := (Value.agg (bL (be 32 l[i].slots[j].1)).toArray)) rfl rfl (by first | (simp [length_bL, length_be, length_uL]; done) | rfl) (by first | rfl | (simp [length_bL, length_be, length_uL]; done)) rfl (by first | (simp [length_bL, length_be, length_uL]; done) | rfl) (fill_flat (off := 32) (k := 32) (f := (List.replicate 32 (.int .u8 0))) (c := bL (be 32 l[i].slots[j].2)) (v := (Value.agg (bL (be 32 l[i].slots[j].2)).toArray)) rfl rfl (by first | (simp [length_bL, length_be, length_uL]; done) | rfl) (by first | (simp [length_bL, length_be, length_uL]; done) | rfl) rfl (by first | (simp [length_bL, length_be, length_uL]; done) | rfl) (fill_nil _ _)))
                                      refine p_step (by exact rfl) ((y_bld (bC (et (gS rfl g0) rfl) (bC (et g0 rfl) bN)) hb57).to (congrArg (fun l : List Value => Value.agg l.toArray) (show _ = (bL (be 32 l[i].slots[j].1) ++ bL (be 32 l[i].slots[j].2)) by simp))) ?_
                                      refine p_eff (by exact rfl) (e_slice1 Hvaa.underlying111 sz_117 zr_117 rfl (by decide) (et g0 rfl) (by rw [show (Value.agg ((bL (be 32 l[i].slots[j].1) ++ bL (be 32 l[i].slots[j].2))).toArray).cells = ((bL (be 32 l[i].slots[j].1) ++ bL (be 32 l[i].slots[j].2))).toArray from rfl, List.size_toArray, os_len])) (fun v58 w58 h58 => ?_)
                                      obtain ⟨b58, rfl, n58⟩ := h58
                                      replace G := G.tr (Go.ofUp hF n58.up)
                                      replace V6 := V6.tr (Go.ofUp hF n58.up)
                                      replace Vi13 := Vi13.tr (Go.ofUp hF n58.up)
                                      replace V45 := V45.tr (Go.ofUp hF n58.up)
                                      replace hF := hF.up n58.up
                                      replace k14 := k14.up n58.up
                                      replace k22 := k22.up n58.up
                                      replace k52 := k52.up n58.up
                                      replace kS := kS.up n58.up
                                      replace hO := hO.up n58.up
                                      replace hI := hI.up n58.up
                                      replace U := U.tr n58.up
                                      have kq58 : Blk w58 b58 ((bL (be 32 l[i].slots[j].1) ++ bL (be 32 l[i].slots[j].2))).toArray := n58.blk
                                      refine ⟨.inr (SU.tr n58.up), ?_⟩
                                      replace SU := SU.tr n58.up
                                      have hbz : base2 ≤ w58.heap.size := by have h1 := V45.ch.size; omega
                                      refine p_eff (by exact rfl) (e_appL Hvaa.underlying111 sz_117 zr_117 by_117 rfl (by decide) (et (gS rfl (gS rfl (gS rfl (gS rfl (gS rfl (gS rfl (gS rfl (gS rfl g0)))))))) rfl) hI (et g0 rfl) os_len kq58 os_one (show P_oslot H _ l[i].slots[j] from ⟨rfl, hkl, hvl9⟩) (by decide) (by rw [List.length_take]; omega) hbz) (fun v59 w59 h59 => ?_)
                                      obtain ⟨hO59, c59, hown59⟩ := h59
                                      have hOo := hI
                                      replace G := G.chs c59 (by intro b hb; have h9 := hOo.lim b hb.symm; first | exact .inl (.inl hb) | exact .inr (by omega) | exact .inl (by omega) | exact .inl (.inr (by omega)) | omega) (by intro q hq hh; have := hHb q hh; have := hOo.lim q hq.symm; omega)
                                      replace V6 := V6.chs c59 (by intro b hb; have h9 := hOo.lim b hb.symm; first | exact .inl (.inl hb) | exact .inr (by omega) | exact .inl (by omega) | exact .inl (.inr (by omega)) | omega) (by intro q hq hh; have := hHb q hh; have := hOo.lim q hq.symm; omega)
                                      replace Vi13 := Vi13.chs c59 (by intro b hb; have h9 := hOo.lim b hb.symm; first | exact .inl (.inl hb) | exact .inr (by omega) | exact .inl (by omega) | exact .inl (.inr (by omega)) | omega) (by intro q hq hh; have := hHb q hh; have := hOo.lim q hq.symm; omega)
                                      replace V45 := V45.chs c59 (by intro b hb; have h9 := hOo.lim b hb.symm; first | exact .inl (.inl hb) | exact .inr (by omega) | exact .inl (by omega) | exact .inl (.inr (by omega)) | omega) (by intro q hq hh; have := hHb q hh; have := hOo.lim q hq.symm; omega)
                                      replace hF := G.fz
                                      replace k14 := k14.ch c59 (by first | omega | exact hOo.ne (by omega) | (intro q hq; have h9 := hOo.lim q hq.symm; omega))
                                      replace k22 := k22.ch c59 (by first | omega | exact hOo.ne (by omega) | (intro q hq; have h9 := hOo.lim q hq.symm; omega))
                                      replace k52 := k52.ch c59 (by first | omega | exact hOo.ne (by omega) | (intro q hq; have h9 := hOo.lim q hq.symm; omega))
                                      replace kS := kS.ch c59 (by first | omega | exact hOo.ne (by omega))
                                      replace hO := hO.ch c59 (by first | omega | exact hOo.ne (by omega) | (intro q hq; have h9 := hOo.lim q hq.symm; omega))
                                      replace hI := hO59
                                      replace U := U.cc c59 (by intro b hb; have h9 := hOo.lim b hb.symm; first | exact .inl (.inl hb) | exact .inr (by omega) | exact .inl (by omega) | exact .inl (.inr (by omega)) | omega)
                                      replace SU := SU.cc c59 (by intro b hb; first | exact .inl hb | exact hb.elim | omega | (have h9 := hOo.lim b hb.symm; first | exact .inl (by omega) | omega))
                                      refine ⟨.inr SU, ?_⟩
                                      exact (by
                                        refine p_step (by exact rfl) (y_fld fld_113_4 (et (gS rfl (gS rfl (gS rfl (gS rfl (gS rfl (gS rfl (gS rfl (gS rfl (gS rfl (gS rfl (gS rfl (gS rfl (gS rfl (gS rfl (gS rfl (gS rfl (gS rfl (gS rfl g0)))))))))))))))))) rfl)) ?_
                                        refine p_effN (by exact rfl) (e_store sz_111 (et g0 rfl) (cellsV (et (gS rfl g0) rfl) (cells_one hI.one1)) rfl (by exact one_sgl hI.one1) k22 (by (rw [List.size_toArray, oaC_len]; decide))) (fun v60 w60 h60 => ?_)
                                        obtain ⟨rfl, x60⟩ := h60
                                        replace k14 := k14.ch x60.ch (by omega)
                                        replace k52 := k52.ch x60.ch (by omega)
                                        replace kS := kS.ch x60.ch (by first | omega | (first | omega | exact hOo.ne (by omega)))
                                        replace k22 := x60.blk
                                        replace hO := hO.wr x60 (by first | omega | (right; omega))
                                        replace hI := hI.wr x60 (by first | omega | (right; omega))
                                        replace G := G.wr x60 (by first | exact .inr f22 | exact .inl rfl | omega | (simp; omega)) nb22
                                        replace V6 := V6.wr x60 (by first | exact .inr f22 | exact .inl rfl | omega | (simp; omega)) nb22
                                        replace Vi13 := Vi13.wr x60 (by first | exact .inr f22 | exact .inl rfl | omega | (simp; omega)) nb22
                                        replace V45 := V45.wr x60 (by first | exact .inr f22 | exact .inl rfl | omega | (simp; omega)) nb22
                                        replace hF := G.fz
                                        replace U := U.st x60 f22
                                        refine ⟨.inl rfl, ?_⟩
                                        rw [oaC_set] at k22
                                        refine p_nil ?_
                                        refine hQ50 _ _ _ (in_normal ?_)
                                        refine hK49 _ _ ?_
                                        refine fg8 3 6 14 15 16 34 35 36 (gS rfl (gS rfl (gS rfl (gS rfl (gS rfl (gS rfl (gS rfl (gS rfl (gS rfl (gS rfl (gS rfl (gS rfl (gS rfl (gS rfl (gS rfl (gS rfl (gS rfl (gS rfl (gS rfl (gS rfl g0)))))))))))))))))))) (gS rfl (gS rfl (gS rfl (gS rfl (gS rfl (gS rfl (gS rfl (gS rfl (gS rfl (gS rfl (gS rfl (gS rfl (gS rfl (gS rfl (gS rfl (gS rfl (gS rfl (gS rfl (gS rfl g0))))))))))))))))))) (gS rfl (gS rfl (gS rfl (gS rfl (gS rfl (gS rfl (gS rfl (gS rfl (gS rfl (gS rfl (gS rfl (gS rfl (gS rfl (gS rfl (gS rfl (gS rfl (gS rfl (gS rfl g0)))))))))))))))))) (gS rfl (gS rfl (gS rfl (gS rfl (gS rfl (gS rfl (gS rfl (gS rfl (gS rfl (gS rfl (gS rfl (gS rfl (gS rfl (gS rfl (gS rfl (gS rfl (gS rfl g0))))))))))))))))) (gS rfl (gS rfl (gS rfl (gS rfl (gS rfl (gS rfl (gS rfl (gS rfl (gS rfl (gS rfl (gS rfl (gS rfl (gS rfl (gS rfl (gS rfl (gS rfl g0)))))))))))))))) (gS rfl (gS rfl (gS rfl (gS rfl (gS rfl (gS rfl (gS rfl (gS rfl (gS rfl (gS rfl (gS rfl (gS rfl (gS rfl (gS rfl (gS rfl g0))))))))))))))) (gS rfl (gS rfl (gS rfl (gS rfl (gS rfl (gS rfl (gS rfl (gS rfl (gS rfl (gS rfl (gS rfl (gS rfl (gS rfl (gS rfl g0)))))))))))))) (gS rfl (gS rfl (gS rfl (gS rfl (gS rfl (gS rfl (gS rfl (gS rfl (gS rfl (gS rfl (gS rfl (gS rfl (gS rfl g0))))))))))))) (fun g => ?_)
                                        refine c_region ?_
                                        refine l_step (y_add (et g0 rfl) rfl (addIN (y := 1) ?_)) ?_
                                        omega
                                        refine l_step (y_moveV (et g0 rfl)) ?_
                                        refine l_nil ?_
                                        refine fK8 3 6 14 15 16 34 35 36 (gS rfl (gS rfl (gS rfl (gS rfl (gS rfl (gS rfl (gS rfl (gS rfl (gS rfl g0))))))))) (gS rfl (gS rfl (gS rfl (gS rfl (gS rfl (gS rfl (gS rfl (gS rfl g0)))))))) (gS rfl (gS rfl (gS rfl (gS rfl (gS rfl (gS rfl (gS rfl g0))))))) (gS rfl (gS rfl (gS rfl (gS rfl (gS rfl (gS rfl g0)))))) (gS rfl (gS rfl (gS rfl (gS rfl (gS rfl g0))))) (gS rfl (gS rfl (gS rfl (gS rfl g0)))) (gS rfl (gS rfl (gS rfl g0))) g0 (fun g => ?_)
                                        exact hK45 (l[i].slots.length - ((j + 1))) _ _ (by omega) ⟨g, _, _, (j + 1), rfl, rfl, by omega, by rw [← List.take_append_getElem hjl]; exact hI.mono x60.ch.size, hHb, k22, V45⟩))))
                              · skip
                                
                                have hjl : ¬ j < l[i].slots.length := by have := of_decide_eq_false cB3; omega
                                rw [List.take_of_length_le (show l[i].slots.length ≤ j by omega)] at hI
                                have hbw := hbw2
                                obtain ⟨Hz61, Gz61, hlz61, lvz61, hnz61⟩ := hI.keep' mono_oslot G hL0 hbw
                                replace G := Gz61
                                replace hF := G.fz
                                replace hRW := hRW.mono hlz61
                                replace hnn1 := hnn1.mono hlz61
                                replace hbb1 := hbb1.mono hlz61
                                replace hcd1 := hcd1.mono hlz61
                                replace hvs := hvs.mono hlz61
                                replace hbc := hbc.mono hlz61
                                replace hL0 := hL0.trans hlz61
                                replace nb14 := fun hh => (hnz61 _ hh).elim nb14 (fun e => hI.ne (by omega) e)
                                replace nb22 := fun hh => (hnz61 _ hh).elim nb22 (fun e => hI.ne (by omega) e)
                                replace V6 := V6.ext2 hF hlz61 hnz61 (fun q hq => by have h9 := (hI.lim q hq.symm).1; omega)
                                replace Vi13 := Vi13.ext2 hF hlz61 hnz61 (fun q hq => by have h9 := (hI.lim q hq.symm).1; omega)
                                obtain ⟨sta, stc, rfl, hstl, hstc⟩ := lvz61.val
                                refine c_exit ?_
                                refine hQ44 _ _ _ (in_exit ?_)
                                refine hK42 _ _ ?_
                                refine fg5 3 6 14 15 16 (gS rfl (gS rfl (gS rfl (gS rfl (gS rfl (gS rfl (gS rfl (gS rfl g0)))))))) (gS rfl (gS rfl (gS rfl (gS rfl (gS rfl (gS rfl (gS rfl g0))))))) (gS rfl (gS rfl (gS rfl (gS rfl (gS rfl (gS rfl g0)))))) (gS rfl (gS rfl (gS rfl (gS rfl (gS rfl g0))))) (gS rfl (gS rfl (gS rfl (gS rfl g0)))) (fun g => ?_)
                                exact (by
                                  refine c_region ?_
                                  refine l_step (y_moveV (et (gS rfl (gS rfl (gS rfl (gS rfl g0)))) rfl)) ?_
                                  refine l_step (y_loadB agg_113 sz_113 (et (gS rfl (gS rfl (gS rfl (gS rfl g0)))) rfl) (by rw [List.size_toArray, oaC_len]) (at1B k22)) ?_
                                  refine l_eff (e_slice1 Hvaa.underlying23 sz_113 zr_113 rfl (by decide) (et g0 rfl) (by rw [show (Value.agg ((oaC l[i] (.slice qa l[i].code.length qc) (.slice sta l[i].slots.length stc))).toArray).cells = ((oaC l[i] (.slice qa l[i].code.length qc) (.slice sta l[i].slots.length stc))).toArray from rfl, List.size_toArray, oaC_len])) (fun v62 w62 h62 => ?_)
                                  obtain ⟨b62, rfl, n62⟩ := h62
                                  replace G := G.tr (Go.ofUp hF n62.up)
                                  replace V6 := V6.tr (Go.ofUp hF n62.up)
                                  replace Vi13 := Vi13.tr (Go.ofUp hF n62.up)
                                  replace hF := hF.up n62.up
                                  replace k14 := k14.up n62.up
                                  replace k22 := k22.up n62.up
                                  replace kS := kS.up n62.up
                                  replace hO := hO.up n62.up
                                  replace U := U.tr n62.up
                                  have kq62 : Blk w62 b62 ((oaC l[i] (.slice qa l[i].code.length qc) (.slice sta l[i].slots.length stc))).toArray := n62.blk
                                  have hbz : base ≤ w62.heap.size := by have h1 := Vi13.ch.size; omega
                                  have hPn : P_oacct Hz61 (oaC l[i] (.slice qa l[i].code.length qc) (.slice sta l[i].slots.length stc)) l[i] := ⟨_, _, rfl, hal, hbc, lvz61, hb21, hb22⟩
                                  have hnP : ∀ q, some q = z3.ownBlock → ¬ Store.has Hz61 q := fun q hq hh => (Vi13.new q hh).elim (hnO q hq) (fun h8 => by have h9 := (hO.lim q hq.symm).2; omega)
                                  have hF8 := hF
                                  refine l_eff (e_appRaw Hvaa.underlying23 sz_113 zr_113 by_113 rfl (by decide) (et (gS rfl (gS rfl g0)) rfl) hO (et g0 rfl) oaC_len kq62 (oaC_one rfl rfl) (by decide) (by rw [hRW.len]; exact Nat.le_trans exp_len (by omega)) hbz) (fun v63 w63 h63 => ?_)
                                  obtain ⟨hO63, c63, hown63⟩ := h63
                                  have hOo := hO
                                  have hnN : ∀ q, some q = v63.ownBlock → ¬ Store.has _ q := fun q hq hh => hown63 q (hF8.lt hh) (fun h9 => hnP q h9 hh) hq
                                  replace G := G.chs c63 (by intro b hb; have h9 := hOo.lim b hb.symm; first | exact .inr (by omega) | exact .inl (by omega) | omega) (by intro q hq hh; exact hnP q hq hh)
                                  replace V6 := V6.chs c63 (by intro b hb; have h9 := hOo.lim b hb.symm; first | exact .inr (by omega) | exact .inl (by omega) | omega) (by intro q hq hh; exact hnP q hq hh)
                                  replace Vi13 := Vi13.chs c63 (by intro b hb; have h9 := hOo.lim b hb.symm; first | exact .inr (by omega) | exact .inl (by omega) | omega) (by intro q hq hh; exact hnP q hq hh)
                                  replace hF := G.fz
                                  replace k14 := k14.ch c63 (by first | omega | exact hOo.ne (by omega))
                                  replace k22 := k22.ch c63 (by first | omega | exact hOo.ne (by omega))
                                  replace kS := kS.ch c63 (by first | omega | exact hOo.ne (by omega))
                                  replace hO := hO63
                                  replace U := U.cc c63 (by intro b hb; have h9 := hOo.lim b hb.symm; first | exact .inr (by omega) | exact .inl (by omega) | omega)
                                  exact (by
                                    refine l_step (y_assignV (et g0 rfl)) ?_
                                    refine l_nil ?_
                                    refine hQ11 _ _ _ (in_normal ?_)
                                    refine hK10 _ _ ?_
                                    refine fg4 3 14 15 16 g0 (gS rfl (gS rfl (gS rfl (gS rfl (gS rfl (gS rfl (gS rfl g0))))))) (gS rfl (gS rfl (gS rfl (gS rfl (gS rfl (gS rfl g0)))))) (gS rfl (gS rfl (gS rfl (gS rfl (gS rfl g0))))) (fun g => ?_)
                                    refine c_region ?_
                                    refine l_step (y_add (et g0 rfl) rfl (addIN (y := 1) ?_)) ?_
                                    omega
                                    refine l_step (y_moveV (et g0 rfl)) ?_
                                    refine l_nil ?_
                                    refine fK4 3 14 15 16 (gS rfl (gS rfl (gS rfl (gS rfl (gS rfl g0))))) (gS rfl (gS rfl (gS rfl (gS rfl g0)))) (gS rfl (gS rfl (gS rfl g0))) g0 (fun g => ?_)
                                    exact hK6 (l.length - ((i + 1))) _ _ (by omega) ⟨g, _, _, _, (i + 1), rfl, rfl, by omega, hO, by rw [exp_take hil hem]; exact hRW.snoc oaC_len hPn, hnN, V6⟩))))))))
            · skip
              
              have hil : ¬ i < l.length := by have := of_decide_eq_false cB1; omega
              rw [List.take_of_length_le (show l.length ≤ i by omega)] at hRW
              have hO2 := hO.of_raw hRW
              obtain ⟨Hz64, Gz64, hlz64, lvz64, hnz64⟩ := hO2.keep' mono_oacct G (Le.refl _) hbw
              replace G := Gz64
              replace hF := G.fz
              replace hRW := hRW.mono hlz64
              replace hL0 := hL0.trans hlz64
              refine c_exit ?_
              refine hQ5 _ _ _ (in_exit ?_)
              refine hK3 _ _ ?_
              refine fg1 3 (gS rfl (gS rfl (gS rfl (gS rfl g0)))) (fun g => ?_)
              refine c_seq (fun K65 hK65 => ?_)
              exact (by
                refine c_region ?_
                refine l_step (y_moveV (et g0 rfl)) ?_
                refine l_step (y_assignV (et g0 rfl)) ?_
                refine l_nil ?_
                refine hK65 _ _ ?_
                refine fg1 2 g0 (fun g => ?_)
                refine c_ret ?_
                repeat with_reducible refine then_ret ?_
                refine ret1 rfl (res_tmp (et g0 rfl)) ?_
                exact ⟨_, G, lvz64⟩)))))
end Go.Proofs.YgvaawGreat
