import Derived.Test.YgvaawGreatZ1
set_option maxRecDepth 100000
set_option maxHeartbeats 4000000
set_option linter.unusedSimpArgs false
set_option linter.unusedVariables false
namespace Go.Proofs.YgvaawGreat
open Go
section
variable {w : World} {H : Store} {col : Nat → Nat} {bc : Nat} {cs : Array Value} {V : EV} {s : YSt} {sn : List Nat} {sv : List AW} {ms : List (List Nat)} {c : Nat} {low : List YF} {f : YF}
theorem EX.topF (hE : EX w H col bc cs V s sn sv ms c) (hs : s.frames = low ++ [f]) : ∃ n, sn[low.length]? = some n ∧ FR H cs low.length f n := by
  have hf : s.frames[low.length]? = some f := by rw [hs]; simp
  have hl := hE.lx.snl
  rw [hs, List.length_append, List.length_singleton] at hl
  obtain ⟨n, hn⟩ : ∃ n, sn[low.length]? = some n := ⟨_, List.getElem?_eq_getElem (by omega)⟩
  exact ⟨n, hn, hE.lx.frm _ f n hf hn⟩
theorem EX.fbT (hE : EX w H col bc cs V s sn sv ms c) (hs : s.frames = low ++ [f]) : EFB f := hE.lx.fb f (by rw [hs]; simp)
theorem EX.six (hE : EX w H col bc cs V s sn sv ms c) (hs : s.frames = low ++ [f]) : low.length ≤ 6 := by
  have := hE.lx.n7
  rw [hs, List.length_append, List.length_singleton] at this
  omega
theorem EX.cTop (hE : EX w H col bc cs V s sn sv ms c) (hs : s.frames = low ++ [f]) : cs[2258]? = some (.int .i8 (low.length : Nat)) := by
  rw [hE.lx.top, hs, List.length_append, List.length_singleton]
  congr 2
  omega
theorem EX.cPh (hE : EX w H col bc cs V s sn sv ms c) (hp : s.phase = 1) : cs[2404]? = some (.int .u8 (1 : Nat)) := by rw [hE.lx.phs, hp]
theorem EX.stkT (hE : EX w H col bc cs V s sn sv ms c) (hs : s.frames = low ++ [f]) {j x : Nat} (hx : f.stack[j]? = some x) {o : Nat} (e : o = 11 + 4 * (64 * low.length + j)) : Row w bc o (wL x) := by
  subst e
  exact hE.vl.kC.row (hE.lx.stk low.length f (by rw [hs]; simp) j x hx)
end
theorem argN_out {l : List Nat} {i : Nat} (h : l.length ≤ i) : argN l i = 0 := by
  unfold argN
  rw [List.getElem?_eq_none (by rw [List.length_reverse]; exact h)]
  rfl
theorem argN_lt {f : YF} (h : EFB f) (i : Nat) : argN f.stack i < W256 := by
  by_cases hi : i < f.stack.length
  · rw [arg_in hi]
    exact h.wrd _ (List.getElem_mem _)
  · rw [argN_out (by omega)]
    decide
theorem m_running {w : World} {H : Store} {col : Nat → Nat} {bc : Nat} {cs : Array Value} {V : EV} {s : YSt} {sn : List Nat} {sv : List AW} {ms : List (List Nat)} {c : Nat} {low : List YF} {f : YF} (hE : EX w H col bc cs V s sn sv ms c) (hs : s.frames = low ++ [f]) (hp : s.phase = 1) :
    Ret 183 [.pointer (some ⟨bc, 0, none⟩)] w (fun v w' => v = .pointer (some ⟨bc, 1803 + 65 * low.length, none⟩) ∧ Up w w') := by
  obtain ⟨n9, hn9, hR⟩ := hE.topF hs
  have hB := hE.fbT hs
  have h6 := hE.six hs
  have htop := hE.cTop hs
  have hphs := hE.cPh hp
  have hbp := hB.pc
  have hbs := hB.stk
  have hbg := hB.gas
  have hbc9 := hB.code
  have hnw := hE.vl.new
  have hfz := hE.vl.fz
  have hcC := hE.vl.colC
  have hbc0 := hE.vl.kC.lt
  refine enter (n := 37) Hvaa.func183 rfl rfl (Nat.le_of_ble_eq_true rfl) ?_
  have U := Up.refl w
  refine c_seq (fun K1 hK1 => ?_)
  exact (by
    refine c_region ?_
    refine l_step y_assignC ?_
    refine l_nil ?_
    refine hK1 _ _ ?_
    refine fg1 0 (gS rfl g0) (fun g => ?_)
    refine c_seq (fun K2 hK2 => ?_)
    refine c_seq (fun K3 hK3 => ?_)
    exact (by
      refine c_region ?_
      refine l_step (y_moveV (et g0 rfl)) ?_
      refine l_step (y_nil (et g0 rfl)) ?_
      refine l_step (y_fld fld_75_9 (et g0 rfl)) ?_
      refine l_step (y_load1 one_5 (et g0 rfl) (at1 (hE.vl.c1 hphs rfl))) ?_
      refine l_step (y_neq (et g0 rfl) rfl) ?_
      refine l_step (y_moveV (et g0 rfl)) ?_
      refine gsplitL (i := 8) g0 (fun q4 => ?_) (fun q4 => ?_)
      · skip
        simp at q4
      · skip
        refine l_gstep (j := 5) (t := 8) (by exact rfl) (by exact rfl) (et g0 rfl) (by decide) (y_moveV (et (gS rfl (gS rfl (gS rfl (gS rfl (gS rfl (gS rfl (gS rfl g0))))))) rfl)) ?_
        refine l_gstep (j := 5) (t := 8) (by exact rfl) (by exact rfl) (et (gS rfl g0) rfl) (by decide) (y_nil (et g0 rfl)) ?_
        refine l_gstep (j := 5) (t := 8) (by exact rfl) (by exact rfl) (et (gS rfl (gS rfl g0)) rfl) (by decide) (y_fld fld_75_0 (et g0 rfl)) ?_
        refine l_gstep (j := 5) (t := 8) (by exact rfl) (by exact rfl) (et (gS rfl (gS rfl (gS rfl g0))) rfl) (by decide) (y_load1 one_59 (et g0 rfl) (at1 (hE.vl.c1 hE.lx.pS rfl))) ?_
        refine l_gstep (j := 5) (t := 8) (by exact rfl) (by exact rfl) (et (gS rfl (gS rfl (gS rfl (gS rfl g0)))) rfl) (by decide) (y_eqlNil Hvaa.underlying59 (et g0 rfl) rfl) ?_
        refine l_step (y_pickF (et (gS rfl (gS rfl (gS rfl (gS rfl (gS rfl g0))))) rfl) (et g0 rfl)) ?_
        refine l_step (y_moveV (et g0 rfl)) ?_
        refine l_gstep (j := 12) (t := 15) (by exact rfl) (by exact rfl) (et g0 rfl) (by decide) (y_moveV (et (gS rfl (gS rfl (gS rfl (gS rfl (gS rfl (gS rfl (gS rfl (gS rfl (gS rfl (gS rfl (gS rfl (gS rfl (gS rfl (gS rfl g0)))))))))))))) rfl)) ?_
        refine l_gstep (j := 12) (t := 15) (by exact rfl) (by exact rfl) (et (gS rfl g0) rfl) (by decide) (y_nil (et g0 rfl)) ?_
        refine l_gstep (j := 12) (t := 15) (by exact rfl) (by exact rfl) (et (gS rfl (gS rfl g0)) rfl) (by decide) (y_fld fld_75_4 (et g0 rfl)) ?_
        refine l_gstep (j := 12) (t := 15) (by exact rfl) (by exact rfl) (et (gS rfl (gS rfl (gS rfl g0))) rfl) (by decide) (y_load1 one_73 (et g0 rfl) (at1 (hE.vl.c1 htop rfl))) ?_
        refine l_gstep (j := 12) (t := 15) (by exact rfl) (by exact rfl) (et (gS rfl (gS rfl (gS rfl (gS rfl g0)))) rfl) (by decide) (y_lss (et g0 rfl) rfl) ?_
        refine l_step (y_pickF (et (gS rfl (gS rfl (gS rfl (gS rfl (gS rfl g0))))) rfl) (et g0 rfl)) ?_
        refine l_step (y_moveV (et g0 rfl)) ?_
        refine gsplitL (i := 22) g0 (fun q5 => ?_) (fun q5 => ?_)
        · skip
          exact absurd (of_decide_eq_true q5) (by omega)
        · skip
          refine l_gstep (j := 19) (t := 22) (by exact rfl) (by exact rfl) (et g0 rfl) (by decide) (y_moveV (et (gS rfl (gS rfl (gS rfl (gS rfl (gS rfl (gS rfl (gS rfl (gS rfl (gS rfl (gS rfl (gS rfl (gS rfl (gS rfl (gS rfl (gS rfl (gS rfl (gS rfl (gS rfl (gS rfl (gS rfl (gS rfl (gS rfl g0)))))))))))))))))))))) rfl)) ?_
          refine l_gstep (j := 19) (t := 22) (by exact rfl) (by exact rfl) (et (gS rfl g0) rfl) (by decide) (y_nil (et g0 rfl)) ?_
          refine l_gstep (j := 19) (t := 22) (by exact rfl) (by exact rfl) (et (gS rfl (gS rfl g0)) rfl) (by decide) (y_fld fld_75_4 (et g0 rfl)) ?_
          refine l_gstep (j := 19) (t := 22) (by exact rfl) (by exact rfl) (et (gS rfl (gS rfl (gS rfl g0))) rfl) (by decide) (y_load1 one_73 (et g0 rfl) (at1 (hE.vl.c1 htop rfl))) ?_
          refine l_gstep (j := 19) (t := 22) (by exact rfl) (by exact rfl) (et (gS rfl (gS rfl (gS rfl (gS rfl g0)))) rfl) (by decide) (y_gtr (et g0 rfl) rfl) ?_
          refine l_step (y_pickF (et (gS rfl (gS rfl (gS rfl (gS rfl (gS rfl g0))))) rfl) (et g0 rfl)) ?_
          refine l_nil ?_
          refine hK3 _ _ ?_
          refine fg2 0 28 (gS rfl (gS rfl (gS rfl (gS rfl (gS rfl (gS rfl (gS rfl (gS rfl (gS rfl (gS rfl (gS rfl (gS rfl (gS rfl (gS rfl (gS rfl (gS rfl (gS rfl (gS rfl (gS rfl (gS rfl (gS rfl (gS rfl (gS rfl (gS rfl (gS rfl (gS rfl (gS rfl (gS rfl g0)))))))))))))))))))))))))))) g0 (fun g => ?_)
          refine c_false (et g0 rfl) (by (exact decide_eq_false (by omega))) ?_
          refine c_skip ?_
          refine hK2 _ _ ?_
          refine fg1 0 (gS rfl g0) (fun g => ?_)
          refine c_seq (fun K7 hK7 => ?_)
          exact (by
            refine c_draw Up 9 [(0, true), (1, true), (2, true), (3, true), (4, true), (5, true), (6, true), (7, true), (8, true)] (by kernel_rfl) (fun w8 hu => ⟨Up.refl _, ?_⟩)
            replace hE := hE.up hu
            replace U := U.tr hu
            have SU := Up.refl w8
            refine p_step (by exact rfl) (y_moveV (et g0 rfl)) ?_
            refine p_step (by exact rfl) (y_moveV (et (gS rfl g0) rfl)) ?_
            refine p_step (by exact rfl) (y_nil (et g0 rfl)) ?_
            refine p_step (by exact rfl) (y_fld fld_75_4 (et g0 rfl)) ?_
            refine p_step (by exact rfl) (y_load1 one_73 (et g0 rfl) (atS (hE.vl.c1 htop rfl))) ?_
            refine p_step (by exact rfl) (y_nil (et (gS rfl (gS rfl (gS rfl (gS rfl g0)))) rfl)) ?_
            refine p_step (by exact rfl) (y_fld fld_75_3 (et g0 rfl)) ?_
            refine p_step (by exact rfl) (y_idxA Hvaa.underlying72 sz_71 (et g0 rfl) (et (gS rfl (gS rfl g0)) rfl) ?_ ?_) ?_
            omega
            omega
            refine p_step (by exact rfl) (y_assignV (et g0 rfl)) ?_
            refine p_nil ?_
            refine hK7 _ _ ?_
            refine fg1 2 g0 (fun g => ?_)
            refine c_ret ?_
            repeat with_reducible refine then_ret ?_
            refine ret1 rfl (res_tmp (et g0 rfl)) ?_
            exact ⟨congrArg (fun q => Value.pointer (some ⟨bc, q, none⟩)) (by omega), U⟩)))
theorem m_arg {w : World} {H : Store} {col : Nat → Nat} {bc : Nat} {cs : Array Value} {V : EV} {s : YSt} {sn : List Nat} {sv : List AW} {ms : List (List Nat)} {c : Nat} {low : List YF} {f : YF} (hE : EX w H col bc cs V s sn sv ms c) (hs : s.frames = low ++ [f]) (hp : s.phase = 1) {pf : Nat} (hpf : pf = 1803 + 65 * low.length) (i : Nat) (hi : i < 64) :
    Ret 264 [.pointer (some ⟨bc, 0, none⟩), .pointer (some ⟨bc, pf, none⟩), .int .i64 (i : Nat)] w (fun v w' => v = wV (argN f.stack i) ∧ Up w w') := by
  obtain ⟨n9, hn9, hR⟩ := hE.topF hs
  have hB := hE.fbT hs
  have h6 := hE.six hs
  have htop := hE.cTop hs
  have hphs := hE.cPh hp
  have hbp := hB.pc
  have hbs := hB.stk
  have hbg := hB.gas
  have hbc9 := hB.code
  have hnw := hE.vl.new
  have hfz := hE.vl.fz
  have hcC := hE.vl.colC
  have hbc0 := hE.vl.kC.lt
  refine enter (n := 40) Hvaa.func264 rfl rfl (Nat.le_of_ble_eq_true rfl) ?_
  have U := Up.refl w
  refine c_seq (fun K1 hK1 => ?_)
  exact (by
    refine c_region ?_
    refine l_eff (e_alloc zr_65) (fun v2 w2 h2 => ?_)
    obtain ⟨b2, rfl, n2⟩ := h2
    have f2 : w.heap.size ≤ b2 := Nat.le_trans U.size n2.fresh
    replace hE := hE.up n2.up
    replace U := U.tr n2.up
    have k2 := n2.blk
    obtain ⟨zs2, hz2, k2⟩ : ∃ cs : Array Value, cs.size = 4 ∧ Blk w2 b2 cs := ⟨_, rfl, k2⟩
    refine l_nil ?_
    refine hK1 _ _ ?_
    refine c_seq (fun K3 hK3 => ?_)
    exact (by
      refine c_draw Up 15 [(0, true), (1, true), (2, true), (3, true), (4, true), (5, true), (6, true), (7, true), (8, true), (9, true), (10, true), (11, true), (12, true), (13, true), (14, true)] (by kernel_rfl) (fun w4 hu => ⟨Up.refl _, ?_⟩)
      replace k2 := k2.up hu
      replace hE := hE.up hu
      replace U := U.tr hu
      have SU := Up.refl w4
      refine p_step (by exact rfl) (y_moveV (et (gS rfl (gS rfl g0)) rfl)) ?_
      refine p_step (by exact rfl) (y_nil (et g0 rfl)) ?_
      refine p_step (by exact rfl) (y_fld fld_71_5 (et g0 rfl)) ?_
      refine p_step (by exact rfl) (y_load1 one_67 (et g0 rfl) (atS (hE.vl.c1 (hR.r1 5 _ rfl) (by omega)))) ?_
      refine p_step (by exact rfl) (y_conv Hvaa.underlying67 Hvaa.underlying3 (et g0 rfl) (wrap_i64 ?_ ?_)) ?_
      omega
      omega
      refine p_step (by exact rfl) (y_moveV (et (gS rfl (gS rfl (gS rfl (gS rfl (gS rfl (gS rfl (gS rfl g0))))))) rfl)) ?_
      refine p_step (by exact rfl) (y_nil (et g0 rfl)) ?_
      refine p_step (by exact rfl) (y_fld fld_71_6 (et g0 rfl)) ?_
      refine p_step (by exact rfl) (y_load1 one_67 (et g0 rfl) (atS (hE.vl.c1 (hR.r1 6 _ rfl) (by omega)))) ?_
      refine p_step (by exact rfl) (y_conv Hvaa.underlying67 Hvaa.underlying3 (et g0 rfl) (wrap_i64 ?_ ?_)) ?_
      omega
      omega
      refine p_step (by exact rfl) (y_add (et (gS rfl (gS rfl (gS rfl (gS rfl (gS rfl g0))))) rfl) (et g0 rfl) (wrap_i64 ?_ ?_)) ?_
      omega
      omega
      refine p_step (by exact rfl) (y_sub (et g0 rfl) rfl (wrap_i64 ?_ ?_)) ?_
      omega
      omega
      refine p_step (by exact rfl) (y_moveV (et (gS rfl (gS rfl (gS rfl (gS rfl (gS rfl (gS rfl (gS rfl (gS rfl (gS rfl (gS rfl (gS rfl (gS rfl (gS rfl (gS rfl (gS rfl g0))))))))))))))) rfl)) ?_
      refine p_step (by exact rfl) (y_sub (et (gS rfl g0) rfl) (et g0 rfl) (wrap_i64 ?_ ?_)) ?_
      omega
      omega
      refine p_step (by exact rfl) (y_assignV (et g0 rfl)) ?_
      refine p_nil ?_
      refine hK3 _ _ ?_
      refine fg5 2 1 0 6 7 (gS rfl (gS rfl (gS rfl (gS rfl (gS rfl (gS rfl (gS rfl (gS rfl (gS rfl (gS rfl (gS rfl (gS rfl (gS rfl (gS rfl (gS rfl (gS rfl (gS rfl (gS rfl g0)))))))))))))))))) (gS rfl (gS rfl (gS rfl (gS rfl (gS rfl (gS rfl (gS rfl (gS rfl (gS rfl (gS rfl (gS rfl (gS rfl (gS rfl (gS rfl (gS rfl (gS rfl (gS rfl g0))))))))))))))))) (gS rfl (gS rfl (gS rfl (gS rfl (gS rfl (gS rfl (gS rfl (gS rfl (gS rfl (gS rfl (gS rfl (gS rfl (gS rfl (gS rfl (gS rfl (gS rfl g0)))))))))))))))) (gS rfl (gS rfl (gS rfl (gS rfl (gS rfl (gS rfl (gS rfl (gS rfl (gS rfl (gS rfl (gS rfl (gS rfl (gS rfl (gS rfl (gS rfl g0))))))))))))))) g0 (fun g => ?_)
      refine c_seq (fun K5 hK5 => ?_)
      refine c_seq (fun K6 hK6 => ?_)
      exact (by
        refine c_region ?_
        refine l_step (y_moveV (et (gS rfl (gS rfl (gS rfl (gS rfl g0)))) rfl)) ?_
        refine l_step (y_moveV (et (gS rfl (gS rfl (gS rfl (gS rfl g0)))) rfl)) ?_
        refine l_step (y_nil (et g0 rfl)) ?_
        refine l_step (y_fld fld_71_6 (et g0 rfl)) ?_
        refine l_step (y_load1 one_67 (et g0 rfl) (at1 (hE.vl.c1 (hR.r1 6 _ rfl) (by omega)))) ?_
        refine l_step (y_conv Hvaa.underlying67 Hvaa.underlying3 (et g0 rfl) (wrap_i64 ?_ ?_)) ?_
        omega
        omega
        refine l_step (y_geq (et (gS rfl (gS rfl (gS rfl (gS rfl (gS rfl g0))))) rfl) (et g0 rfl)) ?_
        refine l_step (y_moveV (et g0 rfl)) ?_
        refine gsplitL (i := 29) g0 (fun q7 => ?_) (fun q7 => ?_)
        · skip
          have hi9 : f.stack.length ≤ i := by have := of_decide_eq_true q7; omega
          refine l_gskip (j := 7) (t := 29) (by exact rfl) (by exact rfl) (et g0 rfl) (by decide) (by decide) ?_
          refine l_gskip (j := 7) (t := 29) (by exact rfl) (by exact rfl) (et (gS rfl g0) rfl) (by decide) (by decide) ?_
          refine l_step (y_pickT (et (gS rfl (gS rfl g0)) rfl) rfl) ?_
          refine l_nil ?_
          refine hK6 _ _ ?_
          refine fg4 0 6 7 32 (gS rfl (gS rfl (gS rfl (gS rfl (gS rfl (gS rfl (gS rfl (gS rfl (gS rfl (gS rfl (gS rfl (gS rfl (gS rfl (gS rfl g0)))))))))))))) (gS rfl (gS rfl (gS rfl (gS rfl (gS rfl (gS rfl (gS rfl (gS rfl (gS rfl (gS rfl (gS rfl (gS rfl (gS rfl g0))))))))))))) (gS rfl (gS rfl (gS rfl (gS rfl (gS rfl (gS rfl (gS rfl (gS rfl (gS rfl (gS rfl (gS rfl (gS rfl g0)))))))))))) g0 (fun g => ?_)
          refine c_true (et g0 rfl) rfl ?_
          refine c_seq (fun K9 hK9 => ?_)
          exact (by
            refine c_region ?_
            refine l_step (y_bld bN bld65_z) ?_
            refine l_effN (e_store sz_65 (et (gS rfl (gS rfl (gS rfl g0))) rfl) (cellsV (et g0 rfl) rfl) rfl (by exact one_uL _) k2 (by (rw [hz2]; exact Nat.le_refl _))) (fun v10 w10 h10 => ?_)
            obtain ⟨rfl, x10⟩ := h10
            replace hE := hE.ch x10.ch (by first | omega | (intro b hb; first | (subst hb; exact ⟨hnw _ (by omega), fun hh => by have := hfz.lt hh; omega⟩) | (rcases hb with hb | hb <;> (subst hb; exact ⟨hnw _ (by omega), fun hh => by have := hfz.lt hh; omega⟩))))
            replace k2 := x10.blk.full (by rw [hz2]; rfl)
            replace U := U.st x10 f2
            refine l_nil ?_
            refine hK9 _ _ ?_
            refine fg1 6 (gS rfl (gS rfl (gS rfl g0))) (fun g => ?_)
            refine c_ret ?_
            repeat with_reducible refine then_ret ?_
            refine ret1 rfl (res_blk agg_65 sz_65 (et g0 rfl) rfl k2) ?_
            exact ⟨by rw [argN_out hi9]; rfl, U⟩)
        · skip
          have hi9 : i < f.stack.length := by have := of_decide_eq_false q7; omega
          refine l_gstep (j := 7) (t := 29) (by exact rfl) (by exact rfl) (et g0 rfl) (by decide) (y_moveV (et (gS rfl (gS rfl (gS rfl (gS rfl (gS rfl (gS rfl (gS rfl (gS rfl (gS rfl g0))))))))) rfl)) ?_
          refine l_gstep (j := 7) (t := 29) (by exact rfl) (by exact rfl) (et (gS rfl g0) rfl) (by decide) (y_geq (et g0 rfl) rfl) ?_
          refine l_step (y_pickF (et (gS rfl (gS rfl g0)) rfl) (et g0 rfl)) ?_
          refine l_nil ?_
          refine hK6 _ _ ?_
          refine fg4 0 6 7 32 (gS rfl (gS rfl (gS rfl (gS rfl (gS rfl (gS rfl (gS rfl (gS rfl (gS rfl (gS rfl (gS rfl (gS rfl (gS rfl (gS rfl g0)))))))))))))) (gS rfl (gS rfl (gS rfl (gS rfl (gS rfl (gS rfl (gS rfl (gS rfl (gS rfl (gS rfl (gS rfl (gS rfl (gS rfl g0))))))))))))) (gS rfl (gS rfl (gS rfl (gS rfl (gS rfl (gS rfl (gS rfl (gS rfl (gS rfl (gS rfl (gS rfl (gS rfl g0)))))))))))) g0 (fun g => ?_)
          refine c_false (et g0 rfl) (by (exact decide_eq_false (by omega))) ?_
          refine c_skip ?_
          refine hK5 _ _ ?_
          refine fg3 0 6 7 (gS rfl (gS rfl (gS rfl g0))) (gS rfl (gS rfl g0)) (gS rfl g0) (fun g => ?_)
          refine c_seq (fun K12 hK12 => ?_)
          exact (by
            refine c_region ?_
            refine l_step (y_moveV (et (gS rfl (gS rfl g0)) rfl)) ?_
            refine l_step (y_moveV (et (gS rfl g0) rfl)) ?_
            refine l_step (y_nil (et (gS rfl g0) rfl)) ?_
            refine l_step (y_fld fld_75_2 (et g0 rfl)) ?_
            refine l_step (y_idxA Hvaa.underlying66 sz_65 (et g0 rfl) (et (gS rfl (gS rfl g0)) rfl) ?_ ?_) ?_
            omega
            omega
            refine l_step (y_loadR agg_65 sz_65 (et g0 rfl) rfl (at1R (hE.stkT hs (j := f.stack.length - 1 - i) (List.getElem?_eq_getElem (by omega)) (by omega)))) ?_
            refine l_effN (e_store sz_65 (et (gS rfl (gS rfl (gS rfl (gS rfl (gS rfl (gS rfl (gS rfl g0))))))) rfl) (cellsV (et g0 rfl) rfl) rfl (by exact one_uL _) k2 (by (rw [hz2]; exact Nat.le_refl _))) (fun v13 w13 h13 => ?_)
            obtain ⟨rfl, x13⟩ := h13
            replace hE := hE.ch x13.ch (by first | omega | (intro b hb; first | (subst hb; exact ⟨hnw _ (by omega), fun hh => by have := hfz.lt hh; omega⟩) | (rcases hb with hb | hb <;> (subst hb; exact ⟨hnw _ (by omega), fun hh => by have := hfz.lt hh; omega⟩))))
            replace k2 := x13.blk.full (by rw [hz2]; rfl)
            replace U := U.st x13 f2
            refine l_nil ?_
            refine hK12 _ _ ?_
            refine fg1 6 (gS rfl (gS rfl (gS rfl (gS rfl (gS rfl (gS rfl (gS rfl g0))))))) (fun g => ?_)
            refine c_ret ?_
            repeat with_reducible refine then_ret ?_
            refine ret1 rfl (res_blk agg_65 sz_65 (et g0 rfl) rfl k2) ?_
            exact ⟨by rw [arg_in hi9]; rfl, U⟩))))
end Go.Proofs.YgvaawGreat
