import Derived.Test.YgvaawGreatE8
set_option maxRecDepth 100000
set_option maxHeartbeats 4000000
set_option linter.unusedSimpArgs false
set_option linter.unusedVariables false
namespace Go.Proofs.YgvaawGreat
open Go
section
variable {w0 w w' : World} {H0 H : Store} {col0 col : Nat → Nat} {bc : Nat} {cs0 cs : Array Value} {V : EV}
theorem VL.stMk (h : VL w H col bc cs V) {o m : Nat} (ho : o = 10630 + V.marks.length) (hn : V.marks.length < 16384) (hw : Wr w w' bc (spl cs o [.int .i32 (m : Nat)])) : VL w' H col bc (spl cs o [.int .i32 (m : Nat)]) V := by
  subst ho
  have hM : ∀ k, k = bc → col k = 1 := fun k hk => by rw [hk]; exact h.colC
  have hc : ∀ i, i ≠ 10630 + V.marks.length → (spl cs (10630 + V.marks.length) [.int .i32 (m : Nat)])[i]? = cs[i]? := fun i hi => sp1 hi
  exact ⟨h.fz.ch hw.ch (fun b hb hm => by have := h.kept b hb; have := hM b hm; omega), hw.blk, by rw [size_spl]; exact h.size, h.colC, fun b hb => h.new b (Nat.le_trans hw.ch.size hb), h.kept, (Part.ch h.acc hw.ch (fun b hb => by have := hM b hb; omega)).cs (hc _ (by omega)), (Part.ch h.slo hw.ch (fun b hb => by have := hM b hb; omega)).cs (hc _ (by omega)), (Part.ch h.jou hw.ch (fun b hb => by have := hM b hb; omega)).cs (hc _ (by omega)), (Part.ch h.log hw.ch (fun b hb => by have := hM b hb; omega)).cs (hc _ (by omega)), (Part.ch h.tem hw.ch (fun b hb => by have := hM b hb; omega)).cs (hc _ (by omega)), (TPart.ch h.ttb hw.ch (fun b hb => by have := hM b hb; omega)).cs (hc _ (by omega)), fun r hr => by rw [hc _ (by omega)]; exact h.atb r hr, fun r hr => by rw [hc _ (by omega)]; exact h.stb r hr, fun i q hi => by have := (List.getElem?_eq_some_iff.1 hi).1; rw [hc _ (by omega)]; exact h.mrk i q hi, by rw [hc _ (by omega)]; exact h.nmk, by rw [hc _ (by omega)]; exact h.ref, by rw [hc _ (by omega)]; exact h.tb⟩
theorem VL.stNm (h : VL w H col bc cs V) {l : List Nat} (hl : l.length ≤ 16384) (hm : ∀ (i : Nat) m, l[i]? = some m → cs[10630 + i]? = some (.int .i32 (m : Nat))) (hml : V.marks.length ≤ 16384) (hw : Wr w w' bc (spl cs 27014 [.int .i32 (l.length : Nat)])) : VL w' H col bc (spl cs 27014 [.int .i32 (l.length : Nat)]) { V with marks := l } := by
  obtain ⟨a1, a2, a3, a4, a5, a6, a7, a8, a9, b1, b2, b3, b4, b5, b6, b7⟩ := (h.m 0).parts hw (col' := col) (fun _ _ => rfl) (fun b hb => h.new b (Nat.le_trans hw.ch.size hb)) h.kept (by omega)
  refine ⟨a1, a2, a3, a4, fun b hb => h.new b (Nat.le_trans hw.ch.size hb), h.kept, a5 (by decide) (by decide), a6 (by decide) (by decide), a7 (by decide) (by decide), a8 (by decide) (by decide), a9 (by decide) (by decide), b1 (by decide) (by decide), b2, b3, fun i m hi => ?_, sp0 (by rw [h.size]; decide), b6 (by decide), b7⟩
  have hi : l[i]? = some m := hi
  have := (List.getElem?_eq_some_iff.1 hi).1
  rw [sp1 (by omega)]
  exact hm i m hi
theorem VT.stMk (h : VT w0 H0 col0 bc cs0 w H col cs V) {o m : Nat} (ho : o = 10630 + V.marks.length) (hn : V.marks.length < 16384) (x : Wr w w' bc (spl cs o [.int .i32 (m : Nat)])) : VT w0 H0 col0 bc cs0 w' H col (spl cs o [.int .i32 (m : Nat)]) V ∧ (spl cs o [.int .i32 (m : Nat)])[10630 + V.marks.length]? = some (.int .i32 (m : Nat)) :=
  ⟨h.wr x (by rw [h.vl.colC]; decide) (h.vl.stMk ho hn x) ((Out.refl _ _ _).put (by omega) (by omega)), by subst ho; exact sp0 (by rw [h.vl.size]; omega)⟩
theorem VT.stNm (h : VT w0 H0 col0 bc cs0 w H col cs V) {l : List Nat} (hl : l.length ≤ 16384) (hm : ∀ (i : Nat) m, l[i]? = some m → cs[10630 + i]? = some (.int .i32 (m : Nat))) (hml : V.marks.length ≤ 16384) {z : Int} (hz : z = (l.length : Nat)) (x : Wr w w' bc (spl cs 27014 [.int .i32 z])) : VT w0 H0 col0 bc cs0 w' H col (spl cs 27014 [.int .i32 z]) { V with marks := l } := by
  subst hz
  exact h.wr x (by rw [h.vl.colC]; decide) (h.vl.stNm hl hm hml x) ((Out.refl _ _ _).put (by omega) (by omega))
end
theorem VOk.marks {V : EV} {l : List Nat} (h : VOk V) (hl : l.length ≤ 16384) (hb : ∀ m ∈ l, m ≤ 65536) : VOk { V with marks := l } :=
  h.data (V' := { V with marks := l }) ⟨rfl, rfl, rfl⟩ ⟨h.bd.accts, h.bd.slots, h.bd.journal, hl, hb, h.bd.ref, h.bd.logs, h.bd.temps⟩ rfl rfl rfl rfl h.jr h.jl
def snapV (V : EV) : EV := { V with marks := V.marks ++ [V.journal.length] }
theorem undoL_data : ∀ (es : List EEnt) {V V' : EV}, V'.accts = V.accts → V'.slots = V.slots → V'.temps = V.temps → V'.ref = V.ref → V'.logs = V.logs → absV (undoL es V') = absV (undoL es V) := fun es V V' h1 h2 h3 h4 h5 => by
  have key : ∀ (es : List EEnt) (V V' : EV), V'.accts = V.accts → V'.slots = V.slots → V'.temps = V.temps → V'.ref = V.ref → V'.logs = V.logs → (undoL es V').accts = (undoL es V).accts ∧ (undoL es V').slots = (undoL es V).slots ∧ (undoL es V').temps = (undoL es V).temps ∧ (undoL es V').ref = (undoL es V).ref ∧ (undoL es V').logs = (undoL es V).logs := by
    intro es
    induction es with
    | nil => intro V V' h1 h2 h3 h4 h5; exact ⟨h1, h2, h3, h4, h5⟩
    | cons e es ih =>
      intro V V' h1 h2 h3 h4 h5
      show (undoL es (undoE V' e)).accts = (undoL es (undoE V e)).accts ∧ _
      apply ih
      all_goals
        rcases (show e.kind = 0 ∨ e.kind = 1 ∨ e.kind = 2 ∨ e.kind = 3 ∨ e.kind = 4 ∨ e.kind = 5 ∨ e.kind = 6 ∨ e.kind = 7 ∨ e.kind = 8 ∨ e.kind = 9 ∨ e.kind = 10 ∨ 11 ≤ e.kind by omega) with k | k | k | k | k | k | k | k | k | k | k | k
        · rw [u_0 k, u_0 k] <;> simp only [h1, h2, h3, h4, h5]
        · rw [u_1 k, u_1 k] <;> simp only [h1, h2, h3, h4, h5]
        · rw [u_2 k, u_2 k] <;> simp only [h1, h2, h3, h4, h5]
        · rw [u_3 k, u_3 k] <;> simp only [h1, h2, h3, h4, h5]
        · rw [u_4 k, u_4 k] <;> simp only [h1, h2, h3, h4, h5]
        · rw [u_5 k, u_5 k] <;> simp only [h1, h2, h3, h4, h5]
        · rw [u_6 k, u_6 k] <;> simp only [h1, h2, h3, h4, h5]
        · rw [u_7 k, u_7 k] <;> simp only [h1, h2, h3, h4, h5]
        · rw [u_8 k, u_8 k] <;> simp only [h1, h2, h3, h4, h5]
        · rw [u_9 k, u_9 k] <;> simp only [h1, h2, h3, h4, h5]
        · rw [u_10 k, u_10 k] <;> simp only [h1, h2, h3, h4, h5]
        · rw [u_x k, u_x k] <;> simp only [h1, h2, h3, h4, h5]
  obtain ⟨a1, a2, a3, a4, a5⟩ := key es V V' h1 h2 h3 h4 h5
  unfold absV ax sx tx si ti ai
  rw [a1, a2, a3, a4, a5]
theorem VA.snap {V : EV} {A : AW} {sv : List AW} {og : Nat → Nat → Nat} (h : VA V A sv og) : VA (snapV V) A (sv ++ [A]) og := by
  refine ⟨h.abs, h.og, by show (sv ++ [A]).length = (V.marks ++ [_]).length; simp [h.len], fun i m hi => ?_, fun i j m n hij hi hj => ?_⟩
  · have hi : (V.marks ++ [V.journal.length])[i]? = some m := hi
    rcases get_snoc hi with hi | ⟨rfl, rfl⟩
    · obtain ⟨h1, h2⟩ := h.mr i m hi
      refine ⟨h1, ?_⟩
      have := (List.getElem?_eq_some_iff.1 h2).1
      rw [List.getElem?_append_left this, h2]
      congr 1
      exact (undoL_data (V.journal.drop m).reverse (V := V) (V' := snapV V) rfl rfl rfl rfl rfl).symm
    · refine ⟨Nat.le_refl _, ?_⟩
      rw [← h.len, List.getElem?_append_right (Nat.le_refl _), Nat.sub_self]
      unfold sva
      show some A = some (absV (undoL ((V.journal.drop V.journal.length).reverse) (snapV V)))
      rw [List.drop_length]
      exact congrArg some h.abs.symm
  · have hi : (V.marks ++ [V.journal.length])[i]? = some m := hi
    have hj : (V.marks ++ [V.journal.length])[j]? = some n := hj
    rcases get_snoc hi with hi | ⟨rfl, rfl⟩ <;> rcases get_snoc hj with hj | ⟨rfl, rfl⟩
    · exact h.mono i j m n hij hi hj
    · exact (h.mr i m hi).1
    · have := (List.getElem?_eq_some_iff.1 hj).1
      omega
    · exact Nat.le_refl _
theorem v_snap {w : World} {H : Store} {col : Nat → Nat} {bc : Nat} {cs : Array Value} {V : EV} (hV : VL w H col bc cs V) (ho : VOk V) (hmn : V.marks.length < 16384) :
    Ret 178 [.pointer (some ⟨bc, 2435, none⟩)] w (fun v w' => v = .int .i32 (V.marks.length : Nat) ∧ ∃ cs', VT w H col bc cs w' H col cs' (snapV V)) := by
  have hT := VT.refl hV
  have hnw := hV.new
  have hcC := hV.colC
  have hml := ho.bd.marks
  obtain ⟨lj9, lk9, hlJ⟩ := hV.lenJ
  have hjb := ho.bd.journal
  refine enter (n := 41) Hvaa.func178 rfl rfl (Nat.le_of_ble_eq_true rfl) ?_
  have U : Ch (fun _ => True) w w := Ch.refl _ w
  refine c_seq (fun K1 hK1 => ?_)
  exact (by
    refine c_region ?_
    refine l_step y_assignC ?_
    refine l_nil ?_
    refine hK1 _ _ ?_
    refine fg1 0 (gS rfl g0) (fun g => ?_)
    refine c_seq (fun K2 hK2 => ?_)
    refine c_seq (fun K3 hK3 => ?_)
    exact (by
      refine c_region ?_
      refine l_step (y_moveV (et g0 rfl)) ?_
      refine l_step (y_nil (et g0 rfl)) ?_
      refine l_step (y_fld fld_84_6 (et g0 rfl)) ?_
      refine l_step (y_load1 one_21 (et g0 rfl) (at1 (hT.vl.c1 hT.vl.nmk rfl))) ?_
      refine l_step (y_lss (et g0 rfl) rfl) ?_
      refine l_step (y_moveV (et g0 rfl)) ?_
      refine gsplitL (i := 8) g0 (fun q4 => ?_) (fun q4 => ?_)
      · skip
        exact absurd (of_decide_eq_true q4) (by omega)
      · skip
        refine l_gstep (j := 5) (t := 8) (by exact rfl) (by exact rfl) (et g0 rfl) (by decide) (y_moveV (et (gS rfl (gS rfl (gS rfl (gS rfl (gS rfl (gS rfl (gS rfl g0))))))) rfl)) ?_
        refine l_gstep (j := 5) (t := 8) (by exact rfl) (by exact rfl) (et (gS rfl g0) rfl) (by decide) (y_nil (et g0 rfl)) ?_
        refine l_gstep (j := 5) (t := 8) (by exact rfl) (by exact rfl) (et (gS rfl (gS rfl g0)) rfl) (by decide) (y_fld fld_84_6 (et g0 rfl)) ?_
        refine l_gstep (j := 5) (t := 8) (by exact rfl) (by exact rfl) (et (gS rfl (gS rfl (gS rfl g0))) rfl) (by decide) (y_load1 one_21 (et g0 rfl) (at1 (hT.vl.c1 hT.vl.nmk rfl))) ?_
        refine l_gstep (j := 5) (t := 8) (by exact rfl) (by exact rfl) (et (gS rfl (gS rfl (gS rfl (gS rfl g0)))) rfl) (by decide) (y_geq (et g0 rfl) rfl) ?_
        refine l_step (y_pickF (et (gS rfl (gS rfl (gS rfl (gS rfl (gS rfl g0))))) rfl) (et g0 rfl)) ?_
        refine l_nil ?_
        refine hK3 _ _ ?_
        refine fg2 0 14 (gS rfl (gS rfl (gS rfl (gS rfl (gS rfl (gS rfl (gS rfl (gS rfl (gS rfl (gS rfl (gS rfl (gS rfl (gS rfl g0))))))))))))) g0 (fun g => ?_)
        refine c_false (et g0 rfl) (by (exact decide_eq_false (by omega))) ?_
        refine c_skip ?_
        refine hK2 _ _ ?_
        refine fg1 0 (gS rfl g0) (fun g => ?_)
        refine c_seq (fun K6 hK6 => ?_)
        exact (by
          refine c_draw Up 14 [(0, true), (1, true), (2, true), (3, true), (4, true), (5, true), (6, true), (7, true), (8, true), (9, true), (10, true), (11, true), (12, true), (13, true), (14, false)] (by kernel_rfl) (fun w7 hu => ⟨Up.refl _, ?_⟩)
          replace hT := hT.up hu
          replace U := U.tr hu
          have SU := Up.refl w7
          refine p_step (by exact rfl) (y_moveV (et g0 rfl)) ?_
          refine p_step (by exact rfl) (y_moveV (et (gS rfl g0) rfl)) ?_
          refine p_step (by exact rfl) (y_nil (et g0 rfl)) ?_
          refine p_step (by exact rfl) (y_fld fld_84_6 (et g0 rfl)) ?_
          refine p_step (by exact rfl) (y_load1 one_21 (et g0 rfl) (atS (hT.vl.c1 hT.vl.nmk rfl))) ?_
          refine p_step (by exact rfl) (y_moveV (et (gS rfl (gS rfl (gS rfl (gS rfl (gS rfl g0))))) rfl)) ?_
          refine p_step (by exact rfl) (y_nil (et g0 rfl)) ?_
          refine p_step (by exact rfl) (y_fld fld_84_4 (et g0 rfl)) ?_
          refine p_step (by exact rfl) (y_load1 one_79 (et g0 rfl) (atS (hT.vl.c1 hlJ rfl))) ?_
          refine p_step (by exact rfl) (y_len Hvaa.underlying79 (et g0 rfl)) ?_
          refine p_step (by exact rfl) (y_conv Hvaa.underlying3 Hvaa.underlying21 (et g0 rfl) (wrap_i32 ?_ ?_)) ?_
          omega
          omega
          refine p_step (by exact rfl) (y_nil (et (gS rfl (gS rfl (gS rfl (gS rfl (gS rfl (gS rfl (gS rfl (gS rfl (gS rfl (gS rfl g0)))))))))) rfl)) ?_
          refine p_step (by exact rfl) (y_fld fld_84_5 (et g0 rfl)) ?_
          refine p_step (by exact rfl) (y_idxA Hvaa.underlying80 sz_21 (et g0 rfl) (et (gS rfl (gS rfl (gS rfl (gS rfl (gS rfl (gS rfl (gS rfl (gS rfl g0)))))))) rfl) ?_ ?_) ?_
          omega
          omega
          refine p_effN (by exact rfl) (e_store sz_21 (et g0 rfl) (cellsV (et (gS rfl (gS rfl (gS rfl g0))) rfl) rfl) rfl (by intro v hv; simp at hv; subst hv; rfl) hT.vl.kC (by rw [hT.vl.size]; omega)) (fun v8 w8 h8 => ?_)
          obtain ⟨rfl, x8⟩ := h8
          obtain ⟨hv8, hmk⟩ := hT.stMk (by omega) hmn x8
          replace hT := hv8
          replace U := U.cc x8.ch (by intro b hb; exact .inl trivial)
          refine ⟨.inl rfl, ?_⟩
          refine p_nil ?_
          refine hK6 _ _ ?_
          refine fg1 0 (gS rfl (gS rfl (gS rfl (gS rfl (gS rfl (gS rfl (gS rfl (gS rfl (gS rfl (gS rfl (gS rfl (gS rfl (gS rfl (gS rfl g0)))))))))))))) (fun g => ?_)
          refine c_seq (fun K9 hK9 => ?_)
          exact (by
            refine c_region ?_
            refine l_step (y_moveV (et g0 rfl)) ?_
            refine l_step (y_nil (et g0 rfl)) ?_
            refine l_step (y_fld fld_84_6 (et g0 rfl)) ?_
            refine l_step (y_load1 one_21 (et g0 rfl) (at1 (hT.vl.c1 hT.vl.nmk rfl))) ?_
            refine l_step (y_add (et g0 rfl) rfl (wrap_i32 ?_ ?_)) ?_
            omega
            omega
            refine l_step (y_nil (et (gS rfl (gS rfl (gS rfl (gS rfl g0)))) rfl)) ?_
            refine l_step (y_fld fld_84_6 (et g0 rfl)) ?_
            refine l_effN (e_store sz_21 (et g0 rfl) (cellsV (et (gS rfl (gS rfl g0)) rfl) rfl) rfl (by intro v hv; simp at hv; subst hv; rfl) hT.vl.kC (by rw [hT.vl.size]; exact Nat.le_of_ble_eq_true rfl)) (fun v10 w10 h10 => ?_)
            obtain ⟨rfl, x10⟩ := h10
            have hv10 := hT.stNm (l := V.marks ++ [V.journal.length]) (by rw [List.length_append]; simp only [List.length_cons, List.length_nil]; omega) (fun i m hi => by
              rcases get_snoc hi with hi | ⟨rfl, rfl⟩
              · exact hT.vl.mrk i m hi
              · exact hmk) hml (by rw [List.length_append]; simp only [List.length_cons, List.length_nil]; omega) x10
            replace hT := hv10
            replace U := U.cc x10.ch (by intro b hb; exact .inl trivial)
            refine l_nil ?_
            refine hK9 _ _ ?_
            refine fg1 0 (gS rfl (gS rfl (gS rfl (gS rfl (gS rfl (gS rfl (gS rfl g0))))))) (fun g => ?_)
            refine c_seq (fun K11 hK11 => ?_)
            exact (by
              refine c_region ?_
              refine l_step (y_moveV (et g0 rfl)) ?_
              refine l_step (y_nil (et g0 rfl)) ?_
              refine l_step (y_fld fld_84_6 (et g0 rfl)) ?_
              refine l_step (y_load1 one_21 (et g0 rfl) (at1 (hT.vl.c1 hT.vl.nmk rfl))) ?_
              refine l_step (y_sub (et g0 rfl) rfl (wrap_i32 ?_ ?_)) ?_
              (show (-2147483648 : Int) ≤ ((V.marks ++ [V.journal.length]).length : Nat) - 1; omega)
              (show ((((V.marks ++ [V.journal.length]).length : Nat) : Int) - 1) ≤ 2147483647; rw [List.length_append]; simp only [List.length_cons, List.length_nil]; omega)
              refine l_step (y_assignV (et g0 rfl)) ?_
              refine l_nil ?_
              refine hK11 _ _ ?_
              refine fg1 2 g0 (fun g => ?_)
              refine c_ret ?_
              repeat with_reducible refine then_ret ?_
              refine ret1 rfl (res_tmp (et g0 rfl)) ?_
              refine ⟨?_, _, hT⟩
              show Value.int .i32 ((((V.marks ++ [V.journal.length]).length : Nat) : Int) - 1) = _
              rw [List.length_append]
              simp only [List.length_cons, List.length_nil]
              congr 1
              omega)))))
theorem v_live {w : World} {H : Store} {col : Nat → Nat} {bc : Nat} {cs : Array Value} {V : EV} (hV : VL w H col bc cs V) (hml : V.marks.length ≤ 16384) (z : Int) :
    Ret 355 [.pointer (some ⟨bc, 2435, none⟩), .int .i32 z] w (fun v w' => v = .bool (decide (0 ≤ z ∧ z < (V.marks.length : Nat))) ∧ Up w w') := by
  have hnw := hV.new
  have hfz := hV.fz
  refine enter (n := 19) Hvaa.func355 rfl rfl (Nat.le_of_ble_eq_true rfl) ?_
  have U := Up.refl w
  refine c_seq (fun K1 hK1 => ?_)
  exact (by
    refine c_region ?_
    refine l_step y_assignC ?_
    refine l_nil ?_
    refine hK1 _ _ ?_
    refine fg2 1 0 (gS rfl (gS rfl g0)) (gS rfl g0) (fun g => ?_)
    refine c_seq (fun K2 hK2 => ?_)
    exact (by
      refine c_region ?_
      refine l_step (y_moveV (et (gS rfl g0) rfl)) ?_
      refine l_step (y_geq (et g0 rfl) rfl) ?_
      refine l_step (y_moveV (et g0 rfl)) ?_
      refine gsplitL (i := 7) g0 (fun q3 => ?_) (fun q3 => ?_)
      · skip
        have e1 : 0 ≤ z := of_decide_eq_true q3
        refine l_gstep (j := 2) (t := 7) (by exact rfl) (by exact rfl) (et g0 rfl) (by decide) (y_moveV (et (gS rfl (gS rfl (gS rfl (gS rfl (gS rfl g0))))) rfl)) ?_
        refine l_gstep (j := 2) (t := 7) (by exact rfl) (by exact rfl) (et (gS rfl g0) rfl) (by decide) (y_moveV (et (gS rfl (gS rfl (gS rfl (gS rfl (gS rfl g0))))) rfl)) ?_
        refine l_gstep (j := 2) (t := 7) (by exact rfl) (by exact rfl) (et (gS rfl (gS rfl g0)) rfl) (by decide) (y_nil (et g0 rfl)) ?_
        refine l_gstep (j := 2) (t := 7) (by exact rfl) (by exact rfl) (et (gS rfl (gS rfl (gS rfl g0))) rfl) (by decide) (y_fld fld_84_6 (et g0 rfl)) ?_
        refine l_gstep (j := 2) (t := 7) (by exact rfl) (by exact rfl) (et (gS rfl (gS rfl (gS rfl (gS rfl g0)))) rfl) (by decide) (y_load1 one_21 (et g0 rfl) (at1 (hV.c1 hV.nmk rfl))) ?_
        refine l_gstep (j := 2) (t := 7) (by exact rfl) (by exact rfl) (et (gS rfl (gS rfl (gS rfl (gS rfl (gS rfl g0))))) rfl) (by decide) (y_lss (et (gS rfl (gS rfl (gS rfl (gS rfl g0)))) rfl) (et g0 rfl)) ?_
        refine l_step (y_pickT (et (gS rfl (gS rfl (gS rfl (gS rfl (gS rfl (gS rfl g0)))))) rfl) (et g0 rfl)) ?_
        refine l_step (y_moveV (et g0 rfl)) ?_
        refine gsplitL (i := 15) g0 (fun q4 => ?_) (fun q4 => ?_)
        · skip
          have e2 : z < (V.marks.length : Nat) := of_decide_eq_true q4
          refine l_gstep (j := 10) (t := 15) (by exact rfl) (by exact rfl) (et g0 rfl) (by decide) (y_moveV (et (gS rfl (gS rfl (gS rfl (gS rfl (gS rfl (gS rfl (gS rfl (gS rfl (gS rfl (gS rfl (gS rfl (gS rfl (gS rfl (gS rfl g0)))))))))))))) rfl)) ?_
          refine l_gstep (j := 10) (t := 15) (by exact rfl) (by exact rfl) (et (gS rfl g0) rfl) (by decide) (y_lss (et g0 rfl) rfl) ?_
          refine l_step (y_pickT (et (gS rfl (gS rfl g0)) rfl) (et g0 rfl)) ?_
          refine l_step (y_assignV (et g0 rfl)) ?_
          refine l_nil ?_
          refine hK2 _ _ ?_
          refine fg1 4 g0 (fun g => ?_)
          refine c_ret ?_
          repeat with_reducible refine then_ret ?_
          refine ret1 rfl (res_tmp (et g0 rfl)) ?_
          exact ⟨congrArg Value.bool (decide_eq_decide.2 (by omega)), U⟩
        · skip
          have e2 : ¬ z < (V.marks.length : Nat) := of_decide_eq_false q4
          refine l_gskip (j := 10) (t := 15) (by exact rfl) (by exact rfl) (et g0 rfl) (by decide) (by decide) ?_
          refine l_gskip (j := 10) (t := 15) (by exact rfl) (by exact rfl) (et (gS rfl g0) rfl) (by decide) (by decide) ?_
          refine l_step (y_pickF (et (gS rfl (gS rfl g0)) rfl) rfl) ?_
          refine l_step (y_assignV (et g0 rfl)) ?_
          refine l_nil ?_
          refine hK2 _ _ ?_
          refine fg1 4 g0 (fun g => ?_)
          refine c_ret ?_
          repeat with_reducible refine then_ret ?_
          refine ret1 rfl (res_tmp (et g0 rfl)) ?_
          exact ⟨congrArg Value.bool (decide_eq_false (by omega)).symm, U⟩
      · skip
        have e1 : ¬ 0 ≤ z := of_decide_eq_false q3
        refine l_gskip (j := 2) (t := 7) (by exact rfl) (by exact rfl) (et g0 rfl) (by decide) (by decide) ?_
        refine l_gskip (j := 2) (t := 7) (by exact rfl) (by exact rfl) (et (gS rfl g0) rfl) (by decide) (by decide) ?_
        refine l_gskip (j := 2) (t := 7) (by exact rfl) (by exact rfl) (et (gS rfl (gS rfl g0)) rfl) (by decide) (by decide) ?_
        refine l_gskip (j := 2) (t := 7) (by exact rfl) (by exact rfl) (et (gS rfl (gS rfl (gS rfl g0))) rfl) (by decide) (by decide) ?_
        refine l_gskip (j := 2) (t := 7) (by exact rfl) (by exact rfl) (et (gS rfl (gS rfl (gS rfl (gS rfl g0)))) rfl) (by decide) (by decide) ?_
        refine l_gskip (j := 2) (t := 7) (by exact rfl) (by exact rfl) (et (gS rfl (gS rfl (gS rfl (gS rfl (gS rfl g0))))) rfl) (by decide) (by decide) ?_
        refine l_step (y_pickF (et (gS rfl (gS rfl (gS rfl (gS rfl (gS rfl (gS rfl g0)))))) rfl) rfl) ?_
        refine l_step (y_moveV (et g0 rfl)) ?_
        refine l_gskip (j := 10) (t := 15) (by exact rfl) (by exact rfl) (et g0 rfl) (by decide) (by decide) ?_
        refine l_gskip (j := 10) (t := 15) (by exact rfl) (by exact rfl) (et (gS rfl g0) rfl) (by decide) (by decide) ?_
        refine l_step (y_pickF (et (gS rfl (gS rfl g0)) rfl) rfl) ?_
        refine l_step (y_assignV (et g0 rfl)) ?_
        refine l_nil ?_
        refine hK2 _ _ ?_
        refine fg1 4 g0 (fun g => ?_)
        refine c_ret ?_
        repeat with_reducible refine then_ret ?_
        refine ret1 rfl (res_tmp (et g0 rfl)) ?_
        exact ⟨congrArg Value.bool (decide_eq_false (by omega)).symm, U⟩))
theorem v_putLog {w : World} {H : Store} {col : Nat → Nat} {bc : Nat} {cs : Array Value} {V : EV} (hV : VL w H col bc cs V) (ho : VOk V) {lg : YLog} {ta da : Option Addr} {tc dc : Nat} (hal : lg.addr < A160) (hLt : LV P_word 32 H (.slice ta lg.topics.length tc) lg.topics) (hBd : BV H (.slice da lg.data.length dc) lg.data) (htl : lg.topics.length ≤ 4) (hdl : lg.data.length ≤ 717280) (hlr : V.logs.length < 2800) (hjr : V.journal.length < 65536) :
    Ret 384 [.pointer (some ⟨bc, 2435, none⟩), .agg (bL (be 20 lg.addr) ++ [Value.slice ta lg.topics.length tc, Value.slice da lg.data.length dc]).toArray] w (fun v w' => v = .bool true ∧ ∃ (H' : Store) (col' : Nat → Nat) (cs' : Array Value) (V' : EV), VT w H col bc cs w' H' col' cs' V' ∧ VOk V' ∧ JS V V' (fun A => { A with logs := A.logs ++ [lg] }) 0 0 0 1 1) := by
  have hT := VT.refl hV
  have hnw := hV.new
  have hcC := hV.colC
  have hml := ho.bd.marks
  obtain ⟨lj9, lk9, hlJ⟩ := hV.lenJ
  obtain ⟨ll9, lm9, hlL⟩ := hV.lenL
  have hjl : V.journal = V.journal := rfl
  refine enter (n := 49) Hvaa.func384 rfl rfl (Nat.le_of_ble_eq_true rfl) ?_
  have U : Ch (fun _ => True) w w := Ch.refl _ w
  refine c_seq (fun K1 hK1 => ?_)
  exact (by
    refine c_region ?_
    refine l_eff (e_boxV (et (gS rfl g0) rfl)) (fun v2 w2 h2 => ?_)
    obtain ⟨b2, rfl, n2⟩ := h2
    have f2 : w.heap.size ≤ b2 := Nat.le_trans U.size n2.fresh
    replace hT := hT.up n2.up
    replace U := U.tr n2.up
    have k2 := n2.blk
    have nc2 : col b2 = 0 := hnw _ f2
    replace k2 : Blk w2 b2 (bL (be 20 lg.addr) ++ [Value.slice ta lg.topics.length tc, Value.slice da lg.data.length dc]).toArray := k2
    refine l_step y_assignC ?_
    refine l_nil ?_
    refine hK1 _ _ ?_
    refine fg2 0 3 (gS rfl (gS rfl g0)) (gS rfl g0) (fun g => ?_)
    refine c_seq (fun K3 hK3 => ?_)
    refine c_seq (fun K4 hK4 => ?_)
    exact (by
      refine c_region ?_
      refine l_step (y_moveV (et (gS rfl g0) rfl)) ?_
      refine l_eff (e_callV cal_170 (aC (et g0 rfl) aN) (v_room hT.vl)) (fun v5 w5 h5 => ?_)
      obtain ⟨rfl, u5⟩ := h5
      replace k2 := k2.up u5
      replace hT := hT.up u5
      replace U := U.tr u5
      refine l_step (y_not (et g0 rfl)) ?_
      refine l_step (y_moveV (et g0 rfl)) ?_
      refine gsplitL (i := 8) g0 (fun q6 => ?_) (fun q6 => ?_)
      · skip
        simp at q6; omega
      · skip
        refine l_gstep (j := 3) (t := 8) (by exact rfl) (by exact rfl) (et g0 rfl) (by decide) (y_moveV (et (gS rfl (gS rfl (gS rfl (gS rfl (gS rfl (gS rfl g0)))))) rfl)) ?_
        refine l_gstep (j := 3) (t := 8) (by exact rfl) (by exact rfl) (et (gS rfl g0) rfl) (by decide) (y_nil (et g0 rfl)) ?_
        refine l_gstep (j := 3) (t := 8) (by exact rfl) (by exact rfl) (et (gS rfl (gS rfl g0)) rfl) (by decide) (y_fld fld_84_8 (et g0 rfl)) ?_
        refine l_gstep (j := 3) (t := 8) (by exact rfl) (by exact rfl) (et (gS rfl (gS rfl (gS rfl g0))) rfl) (by decide) (y_load1 one_42 (et g0 rfl) (at1 (hT.vl.c1 hlL rfl))) ?_
        refine l_gstep (j := 3) (t := 8) (by exact rfl) (by exact rfl) (et (gS rfl (gS rfl (gS rfl (gS rfl g0)))) rfl) (by decide) (y_len Hvaa.underlying42 (et g0 rfl)) ?_
        refine l_gstep (j := 3) (t := 8) (by exact rfl) (by exact rfl) (et (gS rfl (gS rfl (gS rfl (gS rfl (gS rfl g0))))) rfl) (by decide) (y_geq (et g0 rfl) rfl) ?_
        refine l_step (y_pickF (et (gS rfl (gS rfl (gS rfl (gS rfl (gS rfl (gS rfl g0)))))) rfl) (et g0 rfl)) ?_
        refine l_step (y_moveV (et g0 rfl)) ?_
        refine gsplitL (i := 16) g0 (fun q7 => ?_) (fun q7 => ?_)
        · skip
          exact absurd (of_decide_eq_true q7) (by omega)
        · skip
          refine l_gstep (j := 11) (t := 16) (by exact rfl) (by exact rfl) (et g0 rfl) (by decide) (y_fld fld_131_1 (et (gS rfl (gS rfl (gS rfl (gS rfl (gS rfl (gS rfl (gS rfl (gS rfl (gS rfl (gS rfl (gS rfl (gS rfl (gS rfl (gS rfl g0)))))))))))))) rfl)) ?_
          refine l_gstep (j := 11) (t := 16) (by exact rfl) (by exact rfl) (et (gS rfl g0) rfl) (by decide) (y_load1 one_29 (et g0 rfl) (at1 (k2.cell ((app20 (i := 0) rfl).trans rfl)))) ?_
          refine l_gstep (j := 11) (t := 16) (by exact rfl) (by exact rfl) (et (gS rfl (gS rfl g0)) rfl) (by decide) (y_len Hvaa.underlying29 (et g0 rfl)) ?_
          refine l_gstep (j := 11) (t := 16) (by exact rfl) (by exact rfl) (et (gS rfl (gS rfl (gS rfl g0))) rfl) (by decide) (y_gtr (et g0 rfl) rfl) ?_
          refine l_step (y_pickF (et (gS rfl (gS rfl (gS rfl (gS rfl g0)))) rfl) (et g0 rfl)) ?_
          refine l_step (y_moveV (et g0 rfl)) ?_
          refine gsplitL (i := 22) g0 (fun q8 => ?_) (fun q8 => ?_)
          · skip
            exact absurd (of_decide_eq_true q8) (by omega)
          · skip
            refine l_gstep (j := 17) (t := 22) (by exact rfl) (by exact rfl) (et g0 rfl) (by decide) (y_fld fld_131_2 (et (gS rfl (gS rfl (gS rfl (gS rfl (gS rfl (gS rfl (gS rfl (gS rfl (gS rfl (gS rfl (gS rfl (gS rfl (gS rfl (gS rfl (gS rfl (gS rfl (gS rfl (gS rfl (gS rfl (gS rfl (gS rfl g0))))))))))))))))))))) rfl)) ?_
            refine l_gstep (j := 17) (t := 22) (by exact rfl) (by exact rfl) (et (gS rfl g0) rfl) (by decide) (y_load1 one_38 (et g0 rfl) (at1 (k2.cell ((app20 (i := 1) rfl).trans rfl)))) ?_
            refine l_gstep (j := 17) (t := 22) (by exact rfl) (by exact rfl) (et (gS rfl (gS rfl g0)) rfl) (by decide) (y_len Hvaa.underlying38 (et g0 rfl)) ?_
            refine l_gstep (j := 17) (t := 22) (by exact rfl) (by exact rfl) (et (gS rfl (gS rfl (gS rfl g0))) rfl) (by decide) (y_gtr (et g0 rfl) rfl) ?_
            refine l_step (y_pickF (et (gS rfl (gS rfl (gS rfl (gS rfl g0)))) rfl) (et g0 rfl)) ?_
            refine l_nil ?_
            refine hK4 _ _ ?_
            refine fg3 0 3 27 (gS rfl (gS rfl (gS rfl (gS rfl (gS rfl (gS rfl (gS rfl (gS rfl (gS rfl (gS rfl (gS rfl (gS rfl (gS rfl (gS rfl (gS rfl (gS rfl (gS rfl (gS rfl (gS rfl (gS rfl (gS rfl (gS rfl (gS rfl (gS rfl (gS rfl (gS rfl (gS rfl g0))))))))))))))))))))))))))) (gS rfl (gS rfl (gS rfl (gS rfl (gS rfl (gS rfl (gS rfl (gS rfl (gS rfl (gS rfl (gS rfl (gS rfl (gS rfl (gS rfl (gS rfl (gS rfl (gS rfl (gS rfl (gS rfl (gS rfl (gS rfl (gS rfl (gS rfl (gS rfl (gS rfl (gS rfl g0)))))))))))))))))))))))))) g0 (fun g => ?_)
            refine c_false (et g0 rfl) (by (exact decide_eq_false (by omega))) ?_
            refine c_skip ?_
            refine hK3 _ _ ?_
            refine fg2 0 3 (gS rfl (gS rfl g0)) (gS rfl g0) (fun g => ?_)
            refine c_seq (fun K10 hK10 => ?_)
            exact (by
              refine c_region ?_
              refine l_step (y_moveV (et (gS rfl g0) rfl)) ?_
              refine l_step (y_moveV (et (gS rfl (gS rfl g0)) rfl)) ?_
              refine l_step (y_nil (et g0 rfl)) ?_
              refine l_step (y_fld fld_84_4 (et g0 rfl)) ?_
              refine l_step (y_load1 one_79 (et g0 rfl) (at1 (hT.vl.c1 hlJ rfl))) ?_
              refine l_step (y_bldE0 (kd := 7) rfl) ?_
              refine l_eff (e_slice1 (k := 8) Hvaa.underlying79 sz_218 zr_218 rfl (by decide) (et g0 rfl) (show (eeC (⟨7, 0, 0, 0, [], false⟩ : EEnt) (.slice none 0 0)).toArray.size = 9 by rw [List.size_toArray, eeC_len _ _])) (fun v11 w11 h11 => ?_)
              obtain ⟨bb11, rfl, nn11⟩ := h11
              replace k2 := k2.up nn11.up
              replace hT := hT.up nn11.up
              replace U := U.tr nn11.up
              have kk11 : Blk w11 bb11 (eeC (⟨7, 0, 0, 0, [], false⟩ : EEnt) (.slice none 0 0)).toArray := nn11.blk
              have lt2 := k2.lt
              refine l_eff (e_appT (y := (⟨7, 0, 0, 0, [], false⟩ : EEnt)) (news := eeC (⟨7, 0, 0, 0, [], false⟩ : EEnt) (.slice none 0 0)) Hvaa.underlying79 sz_218 zr_218 by_218 rfl (by decide) (et (gS rfl (gS rfl g0)) rfl) hT hT.vl.jou hlJ (by decide) (by decide) (et g0 rfl) kk11 (eeC_len _ _) one_eeC ⟨_, rfl, BV.nil _, ⟨Nat.le_of_ble_eq_true rfl, by first | exact hpl | exact Nat.le_of_ble_eq_true rfl, by first | exact hen | exact Nat.le_of_ble_eq_true rfl, by first | exact hew | exact Nat.le_of_ble_eq_true rfl, by first | exact heb | exact Nat.le_of_ble_eq_true rfl⟩⟩ (by decide) (by rw [hjl]; omega)) (fun v12 w12 h12 => ?_)
              obtain ⟨hm12, ch12⟩ := h12
              replace k2 := k2.ch ch12 (by intro hm; first | omega | (subst hm; omega))
              replace hT := hm12
              replace U := U.cc ch12 (by intro b hb; exact .inl trivial)
              obtain ⟨pa12, pc12, rfl⟩ := hm12.pd.len
              refine l_step (y_nil (et (gS rfl (gS rfl (gS rfl (gS rfl (gS rfl (gS rfl (gS rfl g0))))))) rfl)) ?_
              refine l_step (y_fld fld_84_4 (et g0 rfl)) ?_
              refine l_effN (e_store sz_79 (et g0 rfl) (cellsV (et (gS rfl (gS rfl g0)) rfl) rfl) rfl (by intro v hv; simp at hv; subst hv; rfl) hT.m.kC (by rw [hT.m.size]; exact Nat.le_of_ble_eq_true rfl)) (fun v13 w13 h13 => ?_)
              obtain ⟨rfl, x13⟩ := h13
              obtain ⟨col1, hv13, hq13⟩ := hT.layJ hml x13
              replace k2 := k2.ch x13.ch (by intro hm; first | omega | (subst hm; omega))
              replace hT := hv13
              replace U := U.cc x13.ch (by intro b hb; exact .inl trivial)
              replace nc2 := (hq13 b2 lt2).trans nc2
              replace hcC := hT.vl.colC
              obtain ⟨ll8, lm8, hlL2⟩ := hT.vl.lenL
              refine l_nil ?_
              refine hK10 _ _ ?_
              refine fg2 0 3 (gS rfl (gS rfl (gS rfl (gS rfl (gS rfl (gS rfl (gS rfl (gS rfl (gS rfl (gS rfl (gS rfl g0))))))))))) (gS rfl (gS rfl (gS rfl (gS rfl (gS rfl (gS rfl (gS rfl (gS rfl (gS rfl (gS rfl g0)))))))))) (fun g => ?_)
              refine c_seq (fun K14 hK14 => ?_)
              exact (by
                refine c_draw (Ch (fun k => col1 k = 5)) 11 [(0, true), (1, true), (2, true), (3, true), (4, true), (5, true), (6, false), (7, false), (8, false), (9, true), (10, true), (11, false)] (by kernel_rfl) (fun w15 hu => ⟨Ch.refl _ _, ?_⟩)
                replace k2 := k2.up hu
                replace hT := hT.up hu
                replace U := U.tr hu
                have SU : (Ch (fun k => col1 k = 5)) w15 w15 := Ch.refl _ _
                refine p_step (by exact rfl) (y_moveV (et (gS rfl g0) rfl)) ?_
                refine p_step (by exact rfl) (y_moveV (et (gS rfl (gS rfl g0)) rfl)) ?_
                refine p_step (by exact rfl) (y_nil (et g0 rfl)) ?_
                refine p_step (by exact rfl) (y_fld fld_84_8 (et g0 rfl)) ?_
                refine p_step (by exact rfl) (y_load1 one_42 (et g0 rfl) (atC (hT.vl.c1 hlL2 rfl) (by intro hm; omega))) ?_
                refine p_step (by exact rfl) (y_loadB agg_131 sz_131 (et (gS rfl (gS rfl (gS rfl (gS rfl (gS rfl g0))))) rfl) (by rw [List.size_toArray, len22]) (atCB k2 (by intro hm; omega))) ?_
                refine p_eff (by exact rfl) (e_callV cal_207 (aC (et g0 rfl) aN) (v_copiedLog hT.vl.fz hal (hLt.mono hT.go.le) (hBd.mono hT.go.le) (by omega) (by omega))) (fun v16 w16 h16 => ?_)
                obtain ⟨H16, yt9, yt8, yd9, yd8, rfl, g16, hvt9, hvd9⟩ := h16
                replace k2 := k2.ch g16.ch (by exact fun h => h)
                replace hT := hT.gn g16
                replace U := U.cc g16.ch (by intro b hb; exact .inl trivial)
                replace SU := SU.cc g16.ch (by intro b hb; first | exact .inl hb | exact hb.elim | omega)
                refine ⟨.inr SU, ?_⟩
                refine p_eff (by exact rfl) (e_slice1 (k := 21) Hvaa.underlying42 sz_131 zr_131 rfl (by decide) (et g0 rfl) (show ((bL (be 20 lg.addr) ++ [Value.slice yt9 lg.topics.length yt8, Value.slice yd9 lg.data.length yd8])).toArray.size = 22 by rw [List.size_toArray, len22])) (fun v17 w17 h17 => ?_)
                obtain ⟨bb17, rfl, nn17⟩ := h17
                replace k2 := k2.up nn17.up
                replace hT := hT.up nn17.up
                replace U := U.tr nn17.up
                have kk17 : Blk w17 bb17 ((bL (be 20 lg.addr) ++ [Value.slice yt9 lg.topics.length yt8, Value.slice yd9 lg.data.length yd8])).toArray := nn17.blk
                refine ⟨.inr (SU.tr nn17.up), ?_⟩
                replace SU := SU.tr nn17.up
                have lt2 := k2.lt
                refine p_eff (by exact rfl) (e_appT (y := lg) (news := (bL (be 20 lg.addr) ++ [Value.slice yt9 lg.topics.length yt8, Value.slice yd9 lg.data.length yd8])) Hvaa.underlying42 sz_131 zr_131 by_131 rfl (by decide) (et (gS rfl (gS rfl (gS rfl g0))) rfl) hT hT.vl.log hlL2 (by decide) (by decide) (et g0 rfl) kk17 (len22) (one_app (one_two rfl rfl)) ⟨_, _, rfl, hal, hvt9, hvd9⟩ (by decide) (by show V.logs.length + 1 ≤ _; omega)) (fun v18 w18 h18 => ?_)
                obtain ⟨hm18, ch18⟩ := h18
                replace k2 := k2.ch ch18 (by intro hm; first | omega | (subst hm; omega))
                replace hT := hm18
                replace U := U.cc ch18 (by intro b hb; exact .inl trivial)
                replace SU := SU.cc ch18 (by intro b hb; first | exact .inl hb | exact hb.elim | omega | (have h9 := hOo.lim b hb.symm; first | exact .inl (by omega) | omega))
                obtain ⟨pa18, pc18, rfl⟩ := hm18.pd.len
                refine ⟨.inr SU, ?_⟩
                exact (by
                  refine p_step (by exact rfl) (y_nil (et (gS rfl (gS rfl (gS rfl (gS rfl (gS rfl (gS rfl (gS rfl (gS rfl g0)))))))) rfl)) ?_
                  refine p_step (by exact rfl) (y_fld fld_84_8 (et g0 rfl)) ?_
                  refine p_effN (by exact rfl) (e_store sz_42 (et g0 rfl) (cellsV (et (gS rfl (gS rfl g0)) rfl) rfl) rfl (by intro v hv; simp at hv; subst hv; rfl) hT.m.kC (by rw [hT.m.size]; exact Nat.le_of_ble_eq_true rfl)) (fun v19 w19 h19 => ?_)
                  obtain ⟨rfl, x19⟩ := h19
                  obtain ⟨col2, hv19, hq19⟩ := hT.layL hml x19
                  replace k2 := k2.ch x19.ch (by intro hm; first | omega | (subst hm; omega))
                  replace hT := hv19
                  replace U := U.cc x19.ch (by intro b hb; exact .inl trivial)
                  replace nc2 := (hq19 b2 lt2).trans nc2
                  replace hcC := hT.vl.colC
                  refine ⟨.inl rfl, ?_⟩
                  refine p_nil ?_
                  refine hK14 _ _ ?_
                  refine fg0 (fun g => ?_)
                  refine c_seq (fun K20 hK20 => ?_)
                  exact (by
                    refine c_region ?_
                    refine l_step y_assignC ?_
                    refine l_nil ?_
                    refine hK20 _ _ ?_
                    refine c_ret ?_
                    repeat with_reducible refine then_ret ?_
                    refine ret1 rfl (res_tmp (et g0 rfl)) ?_
                    have h9 := put_log (l := lg) ho hlr hjr
                    exact ⟨rfl, _, _, _, _, hT, h9.1, h9.2⟩))))))
end Go.Proofs.YgvaawGreat
