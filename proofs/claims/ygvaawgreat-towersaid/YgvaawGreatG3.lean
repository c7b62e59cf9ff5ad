import Derived.Test.YgvaawGreatG2
set_option maxRecDepth 100000
set_option maxHeartbeats 4000000
set_option linter.unusedSimpArgs false
set_option linter.unusedVariables false
namespace Go.Proofs.YgvaawGreat
open Go
theorem MA.bytes {w : World} {col : Nat → Nat} {cs : Array Value} {low : List (List Nat)} {m : List Nat} {bm : Nat} {cm : Array Value} {n off k : Nat} (h : MA w col cs (low ++ [m]) bm cm n) : RowIn cm (low.flatten.length + off) (bL ((m.drop off).take k)) := by
  intro j v hv
  rw [bLt, bLd, List.getElem?_take] at hv
  split at hv
  · rw [List.getElem?_drop] at hv
    rw [Nat.add_assoc]
    exact h.row (off + j) v hv
  · cases hv
theorem MA.leave {w : World} {col : Nat → Nat} {cs : Array Value} {low : List (List Nat)} {m : List Nat} {bm : Nat} {cm : Array Value} {n : Nat} (h : MA w col cs (low ++ [m]) bm cm n) (hz : 10 < cs.size) : MA w col (spl cs 10 [.int .u8 (low.length : Nat)]) low bm cm n := by
  obtain ⟨v, h1, h2, h3⟩ := h.bf
  have hln := h.ln
  rw [List.length_append, List.length_singleton] at hln
  refine ⟨sp0 hz, fun i hi => ?_, ⟨v, by rw [sp1 (by decide)]; exact h1, h2, h3⟩, ?_, h.nb, ?_, by omega, fun q hq => h.mx q (List.mem_append_left _ hq), fun q hq => h.dg q (List.mem_append_left _ hq)⟩
  · rw [sp1 (by omega), h.bs i (by rw [List.length_append]; omega)]
    unfold bsN
    rw [List.take_append_of_le_length hi]
  · have := h.le
    rw [flat_snoc, List.length_append] at this
    omega
  · intro j v hv
    refine h.by' j v ?_
    rw [flat_snoc, bL_app, List.getElem?_append_left (List.getElem?_eq_some_iff.1 hv).1]
    exact hv
theorem MA.enter {w : World} {col : Nat → Nat} {cs : Array Value} {ms : List (List Nat)} {bm : Nat} {cm : Array Value} {n o : Nat} (h : MA w col cs ms bm cm n) (hl : ms.length ≤ 6) (ho : o = 2 + (ms.length + 1)) (hz : 10 < cs.size) : MA w col (spl (spl cs o [.int .u32 (ms.flatten.length : Nat)]) 10 [.int .u8 (ms.length + 1 : Nat)]) (ms ++ [[]]) bm cm n := by
  subst ho
  obtain ⟨v, h1, h2, h3⟩ := h.bf
  have hf : (ms ++ [[]]).flatten = ms.flatten := by simp
  refine ⟨?_, fun i hi => ?_, ⟨v, by rw [sp1 (by decide), sp1 (by omega)]; exact h1, h2, h3⟩, by rw [hf]; exact h.le, h.nb, by rw [hf]; exact h.by', ?_, fun q hq => ?_, fun q hq => ?_⟩
  · rw [List.length_append, List.length_singleton]
    exact sp0 (by rw [size_spl]; exact hz)
  · rw [List.length_append, List.length_singleton] at hi
    rw [sp1 (by omega)]
    by_cases h1 : i ≤ ms.length
    · rw [sp1 (by omega), h.bs i h1]
      unfold bsN
      rw [List.take_append_of_le_length h1]
    · have e : i = ms.length + 1 := by omega
      subst e
      rw [sp0 (by omega), bsN_top]
      simp
  · rw [List.length_append, List.length_singleton]; omega
  · rcases List.mem_append.1 hq with hq | hq
    · exact h.mx q hq
    · simp at hq
      rw [hq]
      exact Nat.zero_le _
  · rcases List.mem_append.1 hq with hq | hq
    · exact h.dg q hq
    · simp at hq
      rw [hq]
      exact Dig.nil 256
theorem zB (k : Nat) : Builtin.zeroCells (Value.int .u8 0).cells k = (bL (List.replicate k 0)).toArray := by
  apply Array.ext_getElem?
  intro j
  unfold Builtin.zeroCells bL
  have e : (Value.int .u8 0).cells = #[Value.int .u8 0] := rfl
  rw [e]
  by_cases hj : j < k
  · simp [hj, Nat.mod_one, bval]
  · rw [Array.getElem?_eq_none (by simp; omega), Array.getElem?_eq_none (by simp; omega)]
theorem lay_lay {m a b : List Nat} {off : Nat} (h : off + a.length + b.length ≤ m.length) : lay (lay m off a) (off + a.length) b = lay m off (a ++ b) := by
  unfold lay
  have h1 : (m.take off).length = off := by rw [List.length_take]; omega
  rw [List.take_left' (by rw [List.length_append, h1]), List.drop_append, List.drop_of_length_le (by rw [List.length_append, h1]; omega), List.nil_append, List.drop_drop, List.length_append, h1, List.length_append, List.append_assoc (m.take off)]
  congr 2
  omega
theorem lay_nil {m : List Nat} {off : Nat} : lay m off [] = m := by simp [lay]
theorem cut_split {l : List Nat} {x k : Nat} : (l.drop x).take (min k (l.length - x)) ++ List.replicate (k - min k (l.length - x)) 0 = cutN l x k := by
  unfold cutN
  have : (l.drop x).take (min k (l.length - x)) = (l.drop x).take k := by
    rw [List.take_eq_take_iff, List.length_drop]
    omega
  rw [this]
  congr 2
  omega
theorem g_leave {w : World} {col : Nat → Nat} {bc : Nat} {cs : Array Value} {low : List (List Nat)} {m : List Nat} {bm : Nat} {cm : Array Value} {n : Nat} (kC : Blk w bc cs) (hM : MA w col cs (low ++ [m]) bm cm n) (hcC : col bc = 1) (hz : 10 < cs.size) :
    Ret 256 [.pointer (some ⟨bc, 1, none⟩)] w (fun v w' => v = .bool true ∧ ∃ cs', Blk w' bc cs' ∧ MA w' col cs' (low) bm cm n ∧ Out cs cs' 1 10 ∧ Ch (fun b => b = bc) w w') := by
  have htp : cs[10]? = some (.int .u8 (low.length + 1 : Nat)) := by have h9 := hM.tp; rw [List.length_append, List.length_singleton] at h9; exact h9
  have hlo : cs[2 + low.length]? = some (.int .u32 (low.flatten.length : Nat)) := by have h9 := hM.bs low.length (by simp); rw [bsN_low] at h9; exact h9
  have hhi : cs[2 + (low.length + 1)]? = some (.int .u32 (low.flatten.length + m.length : Nat)) := by have h9 := hM.bs (low.length + 1) (by simp); rw [bsN_top] at h9; exact h9
  have hln : low.length + 1 ≤ 7 := by have h9 := hM.ln; rw [List.length_append, List.length_singleton] at h9; exact h9
  have hfl : low.flatten.length + m.length ≤ n := by have h9 := hM.le; rw [flat_snoc, List.length_append] at h9; exact h9
  have hnb := hM.nb
  have hmx : m.length ≤ 717280 := hM.mx m (by simp)
  have hbc0 := kC.lt
  refine enter (n := 15) Hvaa.func256 rfl rfl (Nat.le_of_ble_eq_true rfl) ?_
  have U : Ch (fun b => b = bc) w w := Ch.refl _ w
  refine c_seq (fun K1 hK1 => ?_)
  exact (by
    refine c_region ?_
    refine l_step y_assignC ?_
    refine l_nil ?_
    refine hK1 _ _ ?_
    refine fg1 0 (gS rfl g0) (fun g => ?_)
    refine c_seq (fun K2 hK2 => ?_)
    refine c_seq (fun K3 hK3 => ?_)
    exact (by
      refine c_region ?_
      refine l_step (y_moveV (et g0 rfl)) ?_
      refine l_step (y_nil (et g0 rfl)) ?_
      refine l_step (y_fld fld_63_2 (et g0 rfl)) ?_
      refine l_step (y_load1 one_5 (et g0 rfl) (at1 (kC.c1 htp rfl))) ?_
      refine l_step (y_eql (et g0 rfl) rfl) ?_
      refine l_nil ?_
      refine hK3 _ _ ?_
      refine fg2 0 7 (gS rfl (gS rfl (gS rfl (gS rfl (gS rfl g0))))) g0 (fun g => ?_)
      refine c_false (et g0 rfl) (by (exact decide_eq_false (by omega))) ?_
      refine c_skip ?_
      refine hK2 _ _ ?_
      refine fg1 0 (gS rfl g0) (fun g => ?_)
      refine c_seq (fun K5 hK5 => ?_)
      exact (by
        refine c_region ?_
        refine l_step (y_moveV (et g0 rfl)) ?_
        refine l_step (y_nil (et g0 rfl)) ?_
        refine l_step (y_fld fld_63_2 (et g0 rfl)) ?_
        refine l_step (y_load1 one_5 (et g0 rfl) (at1 (kC.c1 htp rfl))) ?_
        refine l_step (y_sub (et g0 rfl) rfl (wrapU_subN (b := 1) uk8 ?_ ?_)) ?_
        omega
        omega
        refine l_step (y_nil (et (gS rfl (gS rfl (gS rfl (gS rfl g0)))) rfl)) ?_
        refine l_step (y_fld fld_63_2 (et g0 rfl)) ?_
        refine l_effN (e_store sz_5 (et g0 rfl) (cellsV (et (gS rfl (gS rfl g0)) rfl) rfl) rfl (by intro v hv; simp at hv; subst hv; rfl) kC (by omega)) (fun v6 w6 h6 => ?_)
        obtain ⟨rfl, x6⟩ := h6
        replace hM := hM.ch x6.ch (by intro h8 hm; first | omega | (subst hm; omega))
        replace kC := x6.blk
        replace U := U.st x6 (.inl (by rfl))
        refine l_nil ?_
        refine hK5 _ _ ?_
        refine fg0 (fun g => ?_)
        refine c_seq (fun K7 hK7 => ?_)
        exact (by
          refine c_region ?_
          refine l_step y_assignC ?_
          refine l_nil ?_
          refine hK7 _ _ ?_
          refine c_ret ?_
          repeat with_reducible refine then_ret ?_
          refine ret1 rfl (res_tmp (et g0 rfl)) ?_
          exact ⟨rfl, _, kC, by have h9 := hM.leave (by omega); exact h9, (Out.refl _ _ _).put (by decide) (by decide), U⟩))))
theorem g_enter {w : World} {col : Nat → Nat} {bc : Nat} {cs : Array Value} {ms : List (List Nat)} {bm : Nat} {cm : Array Value} {n : Nat} (kC : Blk w bc cs) (hM : MA w col cs ms bm cm n) (hcC : col bc = 1) (hz : 10 < cs.size) (hl6 : ms.length ≤ 6) :
    Ret 179 [.pointer (some ⟨bc, 1, none⟩)] w (fun v w' => v = .bool true ∧ ∃ cs', Blk w' bc cs' ∧ MA w' col cs' (ms ++ [[]]) bm cm n ∧ Out cs cs' 1 10 ∧ Ch (fun b => b = bc) w w') := by
  have hb9 := hM.bs ms.length (Nat.le_refl _)
  rw [bsN_all] at hb9
  refine enter (n := 33) Hvaa.func179 rfl rfl (Nat.le_of_ble_eq_true rfl) ?_
  have U : Ch (fun b => b = bc) w w := Ch.refl _ w
  refine c_seq (fun K1 hK1 => ?_)
  exact (by
    refine c_region ?_
    refine l_step y_assignC ?_
    refine l_nil ?_
    refine hK1 _ _ ?_
    refine fg1 0 (gS rfl g0) (fun g => ?_)
    refine c_seq (fun K2 hK2 => ?_)
    refine c_seq (fun K3 hK3 => ?_)
    exact (by
      refine c_region ?_
      refine l_step (y_moveV (et g0 rfl)) ?_
      refine l_step (y_nil (et g0 rfl)) ?_
      refine l_step (y_fld fld_63_2 (et g0 rfl)) ?_
      refine l_step (y_load1 one_5 (et g0 rfl) (at1 (kC.c1 hM.tp rfl))) ?_
      refine l_step (y_gtr (et g0 rfl) rfl) ?_
      refine l_nil ?_
      refine hK3 _ _ ?_
      refine fg2 0 7 (gS rfl (gS rfl (gS rfl (gS rfl (gS rfl g0))))) g0 (fun g => ?_)
      refine c_false (et g0 rfl) (by (exact decide_eq_false (by omega))) ?_
      refine c_skip ?_
      refine hK2 _ _ ?_
      refine fg1 0 (gS rfl g0) (fun g => ?_)
      refine c_seq (fun K5 hK5 => ?_)
      exact (by
        refine c_draw Up 18 [(0, true), (1, true), (2, true), (3, true), (4, true), (5, true), (6, true), (7, true), (8, true), (9, true), (10, true), (11, true), (12, true), (13, true), (14, true), (15, true), (16, true), (17, true), (18, false)] (by kernel_rfl) (fun w6 hu => ⟨Up.refl _, ?_⟩)
        replace kC := kC.up hu
        replace hM := hM.up hu
        replace U := U.tr hu
        have SU := Up.refl w6
        refine p_step (by exact rfl) (y_moveV (et g0 rfl)) ?_
        refine p_step (by exact rfl) (y_moveV (et (gS rfl g0) rfl)) ?_
        refine p_step (by exact rfl) (y_nil (et g0 rfl)) ?_
        refine p_step (by exact rfl) (y_fld fld_63_2 (et g0 rfl)) ?_
        refine p_step (by exact rfl) (y_load1 one_5 (et g0 rfl) (atS (kC.c1 hM.tp rfl))) ?_
        refine p_step (by exact rfl) (y_add (et g0 rfl) rfl (wrapU_addN (b := 1) uk8 ?_)) ?_
        omega
        refine p_step (by exact rfl) (y_moveV (et (gS rfl (gS rfl (gS rfl (gS rfl (gS rfl (gS rfl g0)))))) rfl)) ?_
        refine p_step (by exact rfl) (y_moveV (et (gS rfl (gS rfl (gS rfl (gS rfl (gS rfl (gS rfl (gS rfl g0))))))) rfl)) ?_
        refine p_step (by exact rfl) (y_nil (et g0 rfl)) ?_
        refine p_step (by exact rfl) (y_fld fld_63_2 (et g0 rfl)) ?_
        refine p_step (by exact rfl) (y_load1 one_5 (et g0 rfl) (atS (kC.c1 hM.tp rfl))) ?_
        refine p_step (by exact rfl) (y_nil (et (gS rfl (gS rfl (gS rfl (gS rfl g0)))) rfl)) ?_
        refine p_step (by exact rfl) (y_fld fld_63_1 (et g0 rfl)) ?_
        refine p_step (by exact rfl) (y_idxA Hvaa.underlying61 sz_60 (et g0 rfl) (et (gS rfl (gS rfl g0)) rfl) ?_ ?_) ?_
        omega
        omega
        refine p_step (by exact rfl) (y_load1 one_60 (et g0 rfl) (atS (kC.c1 hb9 (by omega)))) ?_
        refine p_step (by exact rfl) (y_nil (et (gS rfl (gS rfl (gS rfl (gS rfl (gS rfl (gS rfl (gS rfl (gS rfl (gS rfl (gS rfl (gS rfl (gS rfl (gS rfl (gS rfl g0)))))))))))))) rfl)) ?_
        refine p_step (by exact rfl) (y_fld fld_63_1 (et g0 rfl)) ?_
        refine p_step (by exact rfl) (y_idxA Hvaa.underlying61 sz_60 (et g0 rfl) (et (gS rfl (gS rfl (gS rfl (gS rfl (gS rfl (gS rfl (gS rfl (gS rfl (gS rfl (gS rfl (gS rfl g0))))))))))) rfl) ?_ ?_) ?_
        omega
        omega
        refine p_effN (by exact rfl) (e_store sz_60 (et g0 rfl) (cellsV (et (gS rfl (gS rfl (gS rfl g0))) rfl) rfl) rfl (by intro v hv; simp at hv; subst hv; rfl) kC (by omega)) (fun v7 w7 h7 => ?_)
        obtain ⟨rfl, x7⟩ := h7
        replace hM := hM.ch x7.ch (by intro h8 hm; first | omega | (subst hm; omega))
        replace kC := x7.blk
        replace U := U.st x7 (.inl (by rfl))
        refine ⟨.inl rfl, ?_⟩
        refine p_nil ?_
        refine hK5 _ _ ?_
        refine fg1 0 (gS rfl (gS rfl (gS rfl (gS rfl (gS rfl (gS rfl (gS rfl (gS rfl (gS rfl (gS rfl (gS rfl (gS rfl (gS rfl (gS rfl (gS rfl (gS rfl (gS rfl (gS rfl g0)))))))))))))))))) (fun g => ?_)
        refine c_seq (fun K8 hK8 => ?_)
        exact (by
          refine c_region ?_
          refine l_step (y_moveV (et g0 rfl)) ?_
          refine l_step (y_nil (et g0 rfl)) ?_
          refine l_step (y_fld fld_63_2 (et g0 rfl)) ?_
          refine l_step (y_load1 one_5 (et g0 rfl) (at1 (kC.c1 (show (spl cs _ _)[10]? = _ by rw [sp1 (by omega)]; exact hM.tp) rfl))) ?_
          refine l_step (y_add (et g0 rfl) rfl (wrapU_addN (b := 1) uk8 ?_)) ?_
          omega
          refine l_step (y_nil (et (gS rfl (gS rfl (gS rfl (gS rfl g0)))) rfl)) ?_
          refine l_step (y_fld fld_63_2 (et g0 rfl)) ?_
          refine l_effN (e_store sz_5 (et g0 rfl) (cellsV (et (gS rfl (gS rfl g0)) rfl) rfl) rfl (by intro v hv; simp at hv; subst hv; rfl) kC (by (rw [size_spl]; omega))) (fun v9 w9 h9 => ?_)
          obtain ⟨rfl, x9⟩ := h9
          replace hM := hM.ch x9.ch (by intro h8 hm; first | omega | (subst hm; omega))
          replace kC := x9.blk
          replace U := U.st x9 (.inl (by rfl))
          refine l_nil ?_
          refine hK8 _ _ ?_
          refine fg0 (fun g => ?_)
          refine c_seq (fun K10 hK10 => ?_)
          exact (by
            refine c_region ?_
            refine l_step y_assignC ?_
            refine l_nil ?_
            refine hK10 _ _ ?_
            refine c_ret ?_
            repeat with_reducible refine then_ret ?_
            refine ret1 rfl (res_tmp (et g0 rfl)) ?_
            exact ⟨rfl, _, kC, hM.enter hl6 (by omega) (by omega), ((Out.refl _ _ _).put (by omega) (by omega)).put (by decide) (by decide), U⟩)))))
theorem g_load32 {w : World} {col : Nat → Nat} {bc : Nat} {cs : Array Value} {low : List (List Nat)} {m : List Nat} {bm : Nat} {cm : Array Value} {n : Nat} (kC : Blk w bc cs) (hM : MA w col cs (low ++ [m]) bm cm n) (hcC : col bc = 1) (off : Nat) (hok : off + 32 ≤ m.length) :
    Ret 301 [.pointer (some ⟨bc, 1, none⟩), .int .u32 (off : Nat)] w (fun v w' => v = .tuple #[bV ((m.drop off).take 32), .bool true] ∧ Up w w') := by
  have htp : cs[10]? = some (.int .u8 (low.length + 1 : Nat)) := by have h9 := hM.tp; rw [List.length_append, List.length_singleton] at h9; exact h9
  have hlo : cs[2 + low.length]? = some (.int .u32 (low.flatten.length : Nat)) := by have h9 := hM.bs low.length (by simp); rw [bsN_low] at h9; exact h9
  have hhi : cs[2 + (low.length + 1)]? = some (.int .u32 (low.flatten.length + m.length : Nat)) := by have h9 := hM.bs (low.length + 1) (by simp); rw [bsN_top] at h9; exact h9
  have hln : low.length + 1 ≤ 7 := by have h9 := hM.ln; rw [List.length_append, List.length_singleton] at h9; exact h9
  have hfl : low.flatten.length + m.length ≤ n := by have h9 := hM.le; rw [flat_snoc, List.length_append] at h9; exact h9
  have hnb := hM.nb
  have hmx : m.length ≤ 717280 := hM.mx m (by simp)
  have hbc0 := kC.lt
  obtain ⟨_, _, _, _, _, kM0, _⟩ := hM.pos (by omega)
  have hbl := kM0.lt
  refine enter (n := 20) Hvaa.func301 rfl rfl (Nat.le_of_ble_eq_true rfl) ?_
  have U := Up.refl w
  refine c_seq (fun K1 hK1 => ?_)
  exact (by
    refine c_region ?_
    refine l_eff (e_alloc zr_27) (fun v2 w2 h2 => ?_)
    obtain ⟨b2, rfl, n2⟩ := h2
    have f2 : w.heap.size ≤ b2 := Nat.le_trans U.size n2.fresh
    replace kC := kC.up n2.up
    replace hM := hM.up n2.up
    replace U := U.tr n2.up
    have k2 := n2.blk
    obtain ⟨zs2, hz2, k2⟩ : ∃ cs : Array Value, cs.size = 32 ∧ Blk w2 b2 cs := ⟨_, rfl, k2⟩
    refine l_step y_assignC ?_
    refine l_nil ?_
    refine hK1 _ _ ?_
    refine fg3 1 0 4 (gS rfl (gS rfl (gS rfl g0))) (gS rfl (gS rfl g0)) (gS rfl g0) (fun g => ?_)
    refine c_seq (fun K3 hK3 => ?_)
    exact (by
      refine c_region ?_
      refine l_step (y_moveV (et (gS rfl g0) rfl)) ?_
      refine l_step (y_moveV (et (gS rfl (gS rfl (gS rfl g0))) rfl)) ?_
      refine l_eff (e_callV cal_358 (aC (et (gS rfl g0) rfl) (aC (et g0 rfl) (aC (v := .int .u32 ((32 : Nat) : Int)) rfl aN))) (g_part kC hM hcC off 32 (by omega) (by omega))) (fun v4 w4 h4 => ?_)
      obtain ⟨rfl, u4⟩ := h4
      replace k2 := k2.up u4
      replace kC := kC.up u4
      replace hM := hM.up u4
      replace U := U.tr u4
      refine l_step (y_moveV (et g0 rfl)) ?_
      refine l_step (y_ext (et g0 rfl) rfl) ?_
      refine l_step (y_ext (et (gS rfl g0) rfl) rfl) ?_
      refine l_step (y_assignV (et (gS rfl g0) rfl)) ?_
      refine l_step (y_assignV (et (gS rfl g0) rfl)) ?_
      refine l_nil ?_
      refine hK3 _ _ ?_
      refine fg3 4 6 7 (gS rfl (gS rfl (gS rfl (gS rfl (gS rfl (gS rfl (gS rfl (gS rfl g0)))))))) (gS rfl g0) g0 (fun g => ?_)
      refine c_seq (fun K5 hK5 => ?_)
      refine c_seq (fun K6 hK6 => ?_)
      exact (by
        refine c_region ?_
        refine l_step (y_moveV (et g0 rfl)) ?_
        refine l_step (y_not (et g0 rfl)) ?_
        refine l_nil ?_
        refine hK6 _ _ ?_
        refine fg3 4 6 15 (gS rfl (gS rfl (gS rfl (gS rfl g0)))) (gS rfl (gS rfl (gS rfl g0))) g0 (fun g => ?_)
        refine c_false (et g0 rfl) (by rfl) ?_
        refine c_skip ?_
        refine hK5 _ _ ?_
        refine fg2 4 6 (gS rfl (gS rfl g0)) (gS rfl g0) (fun g => ?_)
        refine c_seq (fun K8 hK8 => ?_)
        exact (by
          refine c_region ?_
          refine l_step (y_moveV (et g0 rfl)) ?_
          refine l_step (y_s2a Hvaa.underlying27 (et g0 rfl) ?_) ?_
          omega
          obtain ⟨cap9, _, hnc9, _, hcz, kM, hc8⟩ := hM.pos (by omega)
          refine l_step (y_loadR agg_27 sz_27 (et g0 rfl) (by rw [length_bL, List.length_take, List.length_drop]; omega) (at1R (kM.row (hM.bytes (off := off) (k := 32))))) ?_
          refine l_effN (e_store sz_27 (et (gS rfl (gS rfl (gS rfl (gS rfl g0)))) rfl) (cellsV (et g0 rfl) rfl) (by rw [length_bL, List.length_take, List.length_drop]; omega) (by exact one_bL _) k2 (by (rw [hz2]; exact Nat.le_refl _))) (fun v9 w9 h9 => ?_)
          obtain ⟨rfl, x9⟩ := h9
          replace kC := kC.ch x9.ch (by first | omega | (intro hm; first | omega | (subst hm; omega)))
          replace hM := hM.ch x9.ch (by first | omega | (intro h8 hm; first | omega | (subst hm; omega)))
          replace k2 := x9.blk.full (by rw [length_bL, List.length_take, List.length_drop, hz2]; omega)
          replace U := U.st x9 f2
          refine l_step y_assignC ?_
          refine l_nil ?_
          refine hK8 _ _ ?_
          refine fg2 4 5 (gS rfl (gS rfl (gS rfl (gS rfl (gS rfl g0))))) g0 (fun g => ?_)
          refine c_ret ?_
          repeat with_reducible refine then_ret ?_
          refine ret2 rfl (res_blk agg_27 sz_27 (et (gS rfl g0) rfl) (by rw [List.size_toArray, length_bL, List.length_take, List.length_drop]; omega) k2) (res_tmp (et g0 rfl)) ?_
          exact ⟨rfl, U⟩))))
theorem g_store32 {w : World} {col : Nat → Nat} {bc : Nat} {cs : Array Value} {low : List (List Nat)} {m : List Nat} {bm : Nat} {cm : Array Value} {n : Nat} (kC : Blk w bc cs) (hM : MA w col cs (low ++ [m]) bm cm n) (hcC : col bc = 1) (off : Nat) (hok : off + 32 ≤ m.length) (l : List Nat) (hl32 : l.length = 32) (hdl : Dig 256 l) :
    Ret 302 [.pointer (some ⟨bc, 1, none⟩), .int .u32 (off : Nat), bV l] w (fun v w' => v = .bool true ∧ ∃ cm', MA w' col cs (low ++ [lay m off l]) bm cm' n ∧ Ch (fun b => b = bm) w w') := by
  have htp : cs[10]? = some (.int .u8 (low.length + 1 : Nat)) := by have h9 := hM.tp; rw [List.length_append, List.length_singleton] at h9; exact h9
  have hlo : cs[2 + low.length]? = some (.int .u32 (low.flatten.length : Nat)) := by have h9 := hM.bs low.length (by simp); rw [bsN_low] at h9; exact h9
  have hhi : cs[2 + (low.length + 1)]? = some (.int .u32 (low.flatten.length + m.length : Nat)) := by have h9 := hM.bs (low.length + 1) (by simp); rw [bsN_top] at h9; exact h9
  have hln : low.length + 1 ≤ 7 := by have h9 := hM.ln; rw [List.length_append, List.length_singleton] at h9; exact h9
  have hfl : low.flatten.length + m.length ≤ n := by have h9 := hM.le; rw [flat_snoc, List.length_append] at h9; exact h9
  have hnb := hM.nb
  have hmx : m.length ≤ 717280 := hM.mx m (by simp)
  have hbc0 := kC.lt
  obtain ⟨_, _, _, _, _, kM0, _⟩ := hM.pos (by omega)
  have hbl := kM0.lt
  refine enter (n := 21) Hvaa.func302 rfl rfl (Nat.le_of_ble_eq_true rfl) ?_
  have U : Ch (fun b => b = bm) w w := Ch.refl _ w
  refine c_seq (fun K1 hK1 => ?_)
  exact (by
    refine c_region ?_
    refine l_eff (e_boxV (et (gS rfl (gS rfl g0)) rfl)) (fun v2 w2 h2 => ?_)
    obtain ⟨b2, rfl, n2⟩ := h2
    have f2 : w.heap.size ≤ b2 := Nat.le_trans U.size n2.fresh
    replace kC := kC.up n2.up
    replace hM := hM.up n2.up
    replace U := U.tr n2.up
    have k2 := n2.blk
    replace k2 : Blk w2 b2 (bL l).toArray := k2
    refine l_step y_assignC ?_
    refine l_nil ?_
    refine hK1 _ _ ?_
    refine fg3 1 0 5 (gS rfl (gS rfl (gS rfl g0))) (gS rfl (gS rfl g0)) (gS rfl g0) (fun g => ?_)
    refine c_seq (fun K3 hK3 => ?_)
    exact (by
      refine c_region ?_
      refine l_step (y_moveV (et (gS rfl g0) rfl)) ?_
      refine l_step (y_moveV (et (gS rfl (gS rfl (gS rfl g0))) rfl)) ?_
      refine l_eff (e_callV cal_358 (aC (et (gS rfl g0) rfl) (aC (et g0 rfl) (aC (v := .int .u32 ((32 : Nat) : Int)) rfl aN))) (g_part kC hM hcC off 32 (by omega) (by omega))) (fun v4 w4 h4 => ?_)
      obtain ⟨rfl, u4⟩ := h4
      replace k2 := k2.up u4
      replace kC := kC.up u4
      replace hM := hM.up u4
      replace U := U.tr u4
      refine l_step (y_moveV (et g0 rfl)) ?_
      refine l_step (y_ext (et g0 rfl) rfl) ?_
      refine l_step (y_ext (et (gS rfl g0) rfl) rfl) ?_
      refine l_step (y_assignV (et (gS rfl g0) rfl)) ?_
      refine l_step (y_assignV (et (gS rfl g0) rfl)) ?_
      refine l_nil ?_
      refine hK3 _ _ ?_
      refine fg3 5 7 8 (gS rfl (gS rfl (gS rfl (gS rfl (gS rfl (gS rfl (gS rfl (gS rfl g0)))))))) (gS rfl g0) g0 (fun g => ?_)
      refine c_seq (fun K5 hK5 => ?_)
      refine c_seq (fun K6 hK6 => ?_)
      exact (by
        refine c_region ?_
        refine l_step (y_moveV (et g0 rfl)) ?_
        refine l_step (y_not (et g0 rfl)) ?_
        refine l_nil ?_
        refine hK6 _ _ ?_
        refine fg3 5 7 16 (gS rfl (gS rfl (gS rfl (gS rfl g0)))) (gS rfl (gS rfl (gS rfl g0))) g0 (fun g => ?_)
        refine c_false (et g0 rfl) (by rfl) ?_
        refine c_skip ?_
        refine hK5 _ _ ?_
        refine fg2 5 7 (gS rfl (gS rfl g0)) (gS rfl g0) (fun g => ?_)
        refine c_seq (fun K8 hK8 => ?_)
        exact (by
          refine c_draw Up 4 [(0, true), (1, true), (2, true), (3, true), (4, false)] (by kernel_rfl) (fun w9 hu => ⟨Up.refl _, ?_⟩)
          replace k2 := k2.up hu
          replace kC := kC.up hu
          replace hM := hM.up hu
          replace U := U.tr hu
          have SU := Up.refl w9
          refine p_step (by exact rfl) (y_moveV (et g0 rfl)) ?_
          obtain ⟨cap9, _, hnc9, _, hcz, kM, hc8⟩ := hM.pos (by omega)
          refine p_step (by exact rfl) (y_s2a Hvaa.underlying27 (et g0 rfl) ?_) ?_
          omega
          refine p_step (by exact rfl) (y_loadB agg_27 sz_27 (et (gS rfl (gS rfl (gS rfl g0))) rfl) (by rw [List.size_toArray, length_bL, hl32]) (atSB k2)) ?_
          refine p_step (by exact rfl) (y_nil (et (gS rfl g0) rfl)) ?_
          refine p_effN (by exact rfl) (e_store sz_27 (et g0 rfl) (cellsV (et (gS rfl g0) rfl) rfl) (by rw [length_bL, hl32]) (by exact one_bL _) kM (by have := hcz; omega)) (fun v10 w10 h10 => ?_)
          obtain ⟨rfl, x10⟩ := h10
          have hm10 := hM.put (off := off) (l := l) (by omega) (by omega) hdl (by omega) x10
          replace k2 := k2.ch x10.ch (by intro hm; first | omega | (subst hm; omega))
          replace kC := kC.ch x10.ch (by intro hm; first | omega | (subst hm; omega))
          replace hM := hm10
          replace U := U.cc x10.ch (by intro b hb; exact .inl hb)
          refine ⟨.inl rfl, ?_⟩
          refine p_nil ?_
          refine hK8 _ _ ?_
          refine fg0 (fun g => ?_)
          refine c_seq (fun K11 hK11 => ?_)
          exact (by
            refine c_region ?_
            refine l_step y_assignC ?_
            refine l_nil ?_
            refine hK11 _ _ ?_
            refine c_ret ?_
            repeat with_reducible refine then_ret ?_
            refine ret1 rfl (res_tmp (et g0 rfl)) ?_
            exact ⟨rfl, _, hM, U⟩)))))
theorem g_store8 {w : World} {col : Nat → Nat} {bc : Nat} {cs : Array Value} {low : List (List Nat)} {m : List Nat} {bm : Nat} {cm : Array Value} {n : Nat} (kC : Blk w bc cs) (hM : MA w col cs (low ++ [m]) bm cm n) (hcC : col bc = 1) (off y : Nat) (hok : off + 1 ≤ m.length) (hdy : Dig 256 [y]) :
    Ret 303 [.pointer (some ⟨bc, 1, none⟩), .int .u32 (off : Nat), .int .u8 (y : Nat)] w (fun v w' => v = .bool true ∧ ∃ cm', MA w' col cs (low ++ [lay m off [y]]) bm cm' n ∧ Ch (fun b => b = bm) w w') := by
  have htp : cs[10]? = some (.int .u8 (low.length + 1 : Nat)) := by have h9 := hM.tp; rw [List.length_append, List.length_singleton] at h9; exact h9
  have hlo : cs[2 + low.length]? = some (.int .u32 (low.flatten.length : Nat)) := by have h9 := hM.bs low.length (by simp); rw [bsN_low] at h9; exact h9
  have hhi : cs[2 + (low.length + 1)]? = some (.int .u32 (low.flatten.length + m.length : Nat)) := by have h9 := hM.bs (low.length + 1) (by simp); rw [bsN_top] at h9; exact h9
  have hln : low.length + 1 ≤ 7 := by have h9 := hM.ln; rw [List.length_append, List.length_singleton] at h9; exact h9
  have hfl : low.flatten.length + m.length ≤ n := by have h9 := hM.le; rw [flat_snoc, List.length_append] at h9; exact h9
  have hnb := hM.nb
  have hmx : m.length ≤ 717280 := hM.mx m (by simp)
  have hbc0 := kC.lt
  obtain ⟨_, _, _, _, _, kM0, _⟩ := hM.pos (by omega)
  have hbl := kM0.lt
  refine enter (n := 20) Hvaa.func303 rfl rfl (Nat.le_of_ble_eq_true rfl) ?_
  have U : Ch (fun b => b = bm) w w := Ch.refl _ w
  refine c_seq (fun K1 hK1 => ?_)
  exact (by
    refine c_region ?_
    refine l_step y_assignC ?_
    refine l_nil ?_
    refine hK1 _ _ ?_
    refine fg3 2 1 0 (gS rfl (gS rfl (gS rfl g0))) (gS rfl (gS rfl g0)) (gS rfl g0) (fun g => ?_)
    refine c_seq (fun K2 hK2 => ?_)
    exact (by
      refine c_region ?_
      refine l_step (y_moveV (et g0 rfl)) ?_
      refine l_step (y_moveV (et (gS rfl (gS rfl g0)) rfl)) ?_
      refine l_eff (e_callV cal_358 (aC (et (gS rfl g0) rfl) (aC (et g0 rfl) (aC (v := .int .u32 ((1 : Nat) : Int)) rfl aN))) (g_part kC hM hcC off 1 (by omega) (by omega))) (fun v3 w3 h3 => ?_)
      obtain ⟨rfl, u3⟩ := h3
      replace kC := kC.up u3
      replace hM := hM.up u3
      replace U := U.tr u3
      refine l_step (y_moveV (et g0 rfl)) ?_
      refine l_step (y_ext (et g0 rfl) rfl) ?_
      refine l_step (y_ext (et (gS rfl g0) rfl) rfl) ?_
      refine l_step (y_assignV (et (gS rfl g0) rfl)) ?_
      refine l_step (y_assignV (et (gS rfl g0) rfl)) ?_
      refine l_nil ?_
      refine hK2 _ _ ?_
      refine fg3 2 7 8 (gS rfl (gS rfl (gS rfl (gS rfl (gS rfl (gS rfl (gS rfl (gS rfl (gS rfl (gS rfl g0)))))))))) (gS rfl g0) g0 (fun g => ?_)
      refine c_seq (fun K4 hK4 => ?_)
      refine c_seq (fun K5 hK5 => ?_)
      exact (by
        refine c_region ?_
        refine l_step (y_moveV (et g0 rfl)) ?_
        refine l_step (y_not (et g0 rfl)) ?_
        refine l_nil ?_
        refine hK5 _ _ ?_
        refine fg3 2 7 16 (gS rfl (gS rfl (gS rfl (gS rfl g0)))) (gS rfl (gS rfl (gS rfl g0))) g0 (fun g => ?_)
        refine c_false (et g0 rfl) (by rfl) ?_
        refine c_skip ?_
        refine hK4 _ _ ?_
        refine fg2 2 7 (gS rfl (gS rfl g0)) (gS rfl g0) (fun g => ?_)
        refine c_seq (fun K7 hK7 => ?_)
        exact (by
          refine c_region ?_
          refine l_step (y_moveV (et g0 rfl)) ?_
          refine l_step (y_moveV (et (gS rfl (gS rfl g0)) rfl)) ?_
          obtain ⟨cap9, _, hnc9, _, hcz, kM, hc8⟩ := hM.pos (by omega)
          refine l_step (y_idxS Hvaa.underlying38 sz_5 (et (gS rfl g0) rfl) rfl ?_ ?_) ?_
          omega
          omega
          refine l_effN (e_store sz_5 (et g0 rfl) (cellsV (et (gS rfl g0) rfl) rfl) rfl (by intro v hv; simp at hv; subst hv; rfl) kM (by have := hcz; omega)) (fun v8 w8 h8 => ?_)
          obtain ⟨rfl, x8⟩ := h8
          have hm8 := hM.put (off := off) (l := [y]) (by simp only [List.length_cons, List.length_nil]; omega) (by omega) hdy (by omega) x8
          replace kC := kC.ch x8.ch (by intro hm; first | omega | (subst hm; omega))
          replace hM := hm8
          replace U := U.cc x8.ch (by intro b hb; exact .inl hb)
          refine l_nil ?_
          refine hK7 _ _ ?_
          refine fg0 (fun g => ?_)
          refine c_seq (fun K9 hK9 => ?_)
          exact (by
            refine c_region ?_
            refine l_step y_assignC ?_
            refine l_nil ?_
            refine hK9 _ _ ?_
            refine c_ret ?_
            repeat with_reducible refine then_ret ?_
            refine ret1 rfl (res_tmp (et g0 rfl)) ?_
            exact ⟨rfl, _, hM, U⟩)))))
theorem g_read {w : World} {col : Nat → Nat} {bc : Nat} {cs : Array Value} {low : List (List Nat)} {m : List Nat} {bm : Nat} {cm : Array Value} {n : Nat} (kC : Blk w bc cs) (hM : MA w col cs (low ++ [m]) bm cm n) (hcC : col bc = 1) (off k : Nat) (hk : 0 < k) (hok : off + k ≤ m.length) :
    Ret 381 [.pointer (some ⟨bc, 1, none⟩), .int .u32 (off : Nat), .int .u32 (k : Nat)] w (fun v w' => ∃ b, v = .slice (some ⟨b, 0, none⟩) k k ∧ Blk w' b (bL ((m.drop off).take k)).toArray ∧ w.heap.size ≤ b ∧ Up w w') := by
  have htp : cs[10]? = some (.int .u8 (low.length + 1 : Nat)) := by have h9 := hM.tp; rw [List.length_append, List.length_singleton] at h9; exact h9
  have hlo : cs[2 + low.length]? = some (.int .u32 (low.flatten.length : Nat)) := by have h9 := hM.bs low.length (by simp); rw [bsN_low] at h9; exact h9
  have hhi : cs[2 + (low.length + 1)]? = some (.int .u32 (low.flatten.length + m.length : Nat)) := by have h9 := hM.bs (low.length + 1) (by simp); rw [bsN_top] at h9; exact h9
  have hln : low.length + 1 ≤ 7 := by have h9 := hM.ln; rw [List.length_append, List.length_singleton] at h9; exact h9
  have hfl : low.flatten.length + m.length ≤ n := by have h9 := hM.le; rw [flat_snoc, List.length_append] at h9; exact h9
  have hnb := hM.nb
  have hmx : m.length ≤ 717280 := hM.mx m (by simp)
  have hbc0 := kC.lt
  refine enter (n := 29) Hvaa.func381 rfl rfl (Nat.le_of_ble_eq_true rfl) ?_
  have U := Up.refl w
  refine c_seq (fun K1 hK1 => ?_)
  exact (by
    refine c_region ?_
    refine l_step y_assignC ?_
    refine l_nil ?_
    refine hK1 _ _ ?_
    refine fg3 2 1 0 (gS rfl (gS rfl (gS rfl g0))) (gS rfl (gS rfl g0)) (gS rfl g0) (fun g => ?_)
    refine c_seq (fun K2 hK2 => ?_)
    exact (by
      refine c_region ?_
      refine l_step (y_moveV (et g0 rfl)) ?_
      refine l_step (y_moveV (et (gS rfl (gS rfl g0)) rfl)) ?_
      refine l_step (y_moveV (et (gS rfl (gS rfl (gS rfl (gS rfl g0)))) rfl)) ?_
      refine l_eff (e_callV cal_358 (aC (et (gS rfl (gS rfl g0)) rfl) (aC (et (gS rfl g0) rfl) (aC (et g0 rfl) aN))) (g_part kC hM hcC off k (by omega) (by omega))) (fun v3 w3 h3 => ?_)
      obtain ⟨rfl, u3⟩ := h3
      replace kC := kC.up u3
      replace hM := hM.up u3
      replace U := U.tr u3
      refine l_step (y_moveV (et g0 rfl)) ?_
      refine l_step (y_ext (et g0 rfl) rfl) ?_
      refine l_step (y_ext (et (gS rfl g0) rfl) rfl) ?_
      refine l_step (y_assignV (et (gS rfl g0) rfl)) ?_
      refine l_step (y_assignV (et (gS rfl g0) rfl)) ?_
      refine l_nil ?_
      refine hK2 _ _ ?_
      refine fg3 2 7 8 (gS rfl (gS rfl (gS rfl (gS rfl (gS rfl (gS rfl (gS rfl (gS rfl (gS rfl (gS rfl (gS rfl g0))))))))))) (gS rfl g0) g0 (fun g => ?_)
      refine c_seq (fun K4 hK4 => ?_)
      refine c_seq (fun K5 hK5 => ?_)
      exact (by
        refine c_region ?_
        refine l_step (y_moveV (et g0 rfl)) ?_
        refine l_step (y_not (et g0 rfl)) ?_
        refine l_step (y_moveV (et g0 rfl)) ?_
        refine gsplitL (i := 19) g0 (fun q6 => ?_) (fun q6 => ?_)
        · skip
          cases q6
        · skip
          refine l_gstep (j := 2) (t := 19) (by exact rfl) (by exact rfl) (et g0 rfl) (by decide) (y_moveV (et (gS rfl (gS rfl (gS rfl (gS rfl (gS rfl (gS rfl g0)))))) rfl)) ?_
          refine l_gstep (j := 2) (t := 19) (by exact rfl) (by exact rfl) (et (gS rfl g0) rfl) (by decide) (y_eql (et g0 rfl) rfl) ?_
          refine l_step (y_pickF (et (gS rfl (gS rfl g0)) rfl) (et g0 rfl)) ?_
          refine l_nil ?_
          refine hK5 _ _ ?_
          refine fg3 2 7 22 (gS rfl (gS rfl (gS rfl (gS rfl (gS rfl (gS rfl (gS rfl (gS rfl (gS rfl g0))))))))) (gS rfl (gS rfl (gS rfl (gS rfl (gS rfl (gS rfl (gS rfl (gS rfl g0)))))))) g0 (fun g => ?_)
          refine c_false (et g0 rfl) (by (exact decide_eq_false (by omega))) ?_
          refine c_skip ?_
          refine hK4 _ _ ?_
          refine fg2 2 7 (gS rfl (gS rfl g0)) (gS rfl g0) (fun g => ?_)
          refine c_seq (fun K8 hK8 => ?_)
          exact (by
            refine c_region ?_
            refine l_step (y_moveV (et (gS rfl g0) rfl)) ?_
            obtain ⟨cap9, _, hnc9, _, hcz, kM, hc8⟩ := hM.pos (by omega)
            have hbl := kM.lt
            refine l_eff (e_make Hvaa.underlying38 sz_5 zr_5 by_5 (et g0 rfl) (et g0 rfl) (by omega) (by omega)) (fun v9 w9 h9 => ?_)
            obtain ⟨b9, rfl, n9⟩ := h9
            have f9 : w.heap.size ≤ b9 := Nat.le_trans U.size n9.fresh
            replace kC := kC.up n9.up
            replace hM := hM.up n9.up
            replace U := U.tr n9.up
            have k9 := mzB n9.blk
            have hfr9 := n9.fresh
            replace kM := kM.up n9.up
            refine l_step (y_assignV (et g0 rfl)) ?_
            refine l_nil ?_
            refine hK8 _ _ ?_
            refine fg2 7 9 (gS rfl (gS rfl (gS rfl g0))) g0 (fun g => ?_)
            refine c_seq (fun K10 hK10 => ?_)
            exact (by
              refine c_region ?_
              refine l_step (y_moveV (et g0 rfl)) ?_
              refine l_step (y_moveV (et (gS rfl (gS rfl g0)) rfl)) ?_
              refine l_eff (e_copy Hvaa.underlying38 sz_5 (et (gS rfl g0) rfl) (et g0 rfl) (l := bL ((m.drop off).take k)) (by rw [length_bL, List.length_take, List.length_drop, Nat.min_self]; omega) (kM.row (hM.bytes (off := off) (k := k))) (one_bL _) k9 (by rw [length_bL, List.length_take, List.length_drop, List.size_toArray, length_bL, List.length_replicate]; omega)) (fun v11 w11 h11 => ?_)
              obtain ⟨rfl, x11⟩ := h11
              replace kC := kC.ch x11.ch (by intro hm; first | omega | (subst hm; omega))
              replace hM := hM.ch x11.ch (by intro h8 hm; first | omega | (subst hm; omega))
              replace k9 := x11.blk
              replace U := U.cc x11.ch (by intro b hb; first | exact hb ▸ f9 | omega)
              rw [spl_full9 (by rw [length_bL, List.length_take, List.length_drop, List.size_toArray, length_bL, List.length_replicate]; omega)] at k9
              refine l_nil ?_
              refine hK10 _ _ ?_
              refine fg1 9 (gS rfl (gS rfl (gS rfl g0))) (fun g => ?_)
              refine c_seq (fun K12 hK12 => ?_)
              exact (by
                refine c_region ?_
                refine l_step (y_moveV (et g0 rfl)) ?_
                refine l_step (y_assignV (et g0 rfl)) ?_
                refine l_nil ?_
                refine hK12 _ _ ?_
                refine fg1 6 g0 (fun g => ?_)
                refine c_ret ?_
                repeat with_reducible refine then_ret ?_
                refine ret1 rfl (res_tmp (et g0 rfl)) ?_
                exact ⟨_, rfl, k9, f9, U⟩))))))
end Go.Proofs.YgvaawGreat
