import Derived.Test.YgvaawGreatE9
set_option maxRecDepth 100000
set_option maxHeartbeats 4000000
set_option linter.unusedSimpArgs false
set_option linter.unusedVariables false
namespace Go.Proofs.YgvaawGreat
open Go
/-- an entry of the journal -/
structure JAt (w : World) (H : Store) (col : Nat → Nat) (V : EV) (i : Nat) (e : EEnt) (b : Nat) (c : Array Value) (vb : Value) : Prop where
  ix : V.journal[i]? = some e
  kA : Blk w b c
  row : RowIn c (i * 9) (eeC e vb)
  code : BV H vb e.b
  ok : e.Ok
  col : col b = 4
theorem VL.jour {w : World} {H : Store} {col : Nat → Nat} {bc : Nat} {cs : Array Value} {V : EV} {i : Nat} {e : EEnt} (h : VL w H col bc cs V) (hx : V.journal[i]? = some e) : ∃ b c cap vb, cs[10629]? = some (.slice (some ⟨b, 0, none⟩) V.journal.length cap) ∧ V.journal.length ≤ cap ∧ JAt w H col V i e b c vb := by
  obtain ⟨v, b, c, h1, h2, h3⟩ := h.jou
  obtain ⟨cap, c', e1, e2, e3, e4, e5, e6, e7, vc, e10, e8, e9⟩ := h2.get hx
  rw [e10] at e7
  subst e1
  exact ⟨b, c, cap, vc, h1, e2, hx, e5, e7, e8, e9, h3 rfl⟩
section
variable {w : World} {H : Store} {col : Nat → Nat} {V : EV} {i : Nat} {e : EEnt} {b : Nat} {c : Array Value} {vb : Value}
theorem JAt.ch {M : Nat → Prop} {w' : World} (h : JAt w H col V i e b c vb) (u : Ch M w w') (hM : ¬ M b) : JAt w' H col V i e b c vb := ⟨h.ix, h.kA.ch u hM, h.row, h.code, h.ok, h.col⟩
theorem JAt.up {w' : World} (h : JAt w H col V i e b c vb) (u : Up w w') : JAt w' H col V i e b c vb := h.ch u (fun h => h)
theorem JAt.cKind (h : JAt w H col V i e b c vb) {o : Nat} (q : o = i * 9) : w.cell? ⟨b, o, none⟩ = some (.int .u8 (e.kind : Nat)) := h.kA.cell (h.row.at1 0 rfl (by omega))
theorem JAt.cAt (h : JAt w H col V i e b c vb) {o : Nat} (q : o = i * 9 + 1) : w.cell? ⟨b, o, none⟩ = some (.int .i32 (e.pl : Nat)) := h.kA.cell (h.row.at1 1 rfl (by omega))
theorem JAt.cN (h : JAt w H col V i e b c vb) {o : Nat} (q : o = i * 9 + 2) : w.cell? ⟨b, o, none⟩ = some (.int .u64 (e.n : Nat)) := h.kA.cell (h.row.at1 2 rfl (by omega))
theorem JAt.rW (h : JAt w H col V i e b c vb) {o : Nat} (q : o = i * 9 + 3) : Row w b o (wL e.w) := h.kA.row (h.row.sub 3 4 rfl (by omega))
theorem JAt.cB (h : JAt w H col V i e b c vb) {o : Nat} (q : o = i * 9 + 7) : w.cell? ⟨b, o, none⟩ = some vb := h.kA.cell (h.row.at1 7 rfl (by omega))
theorem JAt.cFlag (h : JAt w H col V i e b c vb) {o : Nat} (q : o = i * 9 + 8) : w.cell? ⟨b, o, none⟩ = some (.bool e.flag) := h.kA.cell (h.row.at1 8 rfl (by omega))
end
theorem mod_set {α : Type} {l : List α} {i : Nat} {x : α} {f : α → α} (h : l[i]? = some x) : l.modify i f = l.set i (f x) := by
  apply List.ext_getElem?
  intro j
  rw [List.getElem?_modify, List.getElem?_set]
  by_cases e : i = j
  · subst e
    have := (List.getElem?_eq_some_iff.1 h).1
    simp [this, h]
    have := (List.getElem?_eq_some_iff.1 h).2
    rw [this]
  · rw [if_neg e]
    rw [show (fun a => if i = j then f a else a) = id by funext a; rw [if_neg e]; rfl]
    simp
section
variable {w0 w : World} {H0 H : Store} {col0 col : Nat → Nat} {bc : Nat} {cs0 cs : Array Value} {V : EV}
theorem VT.cutL (h : VT w0 H0 col0 bc cs0 w H col cs V) {b cap m : Nat} (hs : cs[27016]? = some (.slice (some ⟨b, 0, none⟩) V.logs.length cap)) (hm : m ≤ V.logs.length) : VM P_log 22 5 w0 H0 col0 bc cs0 w w H col cs V (.slice (some ⟨b, 0, none⟩) m cap) (V.logs.take m) := by
  obtain ⟨v, b1, c, h1, h2, h3⟩ := h.vl.log
  rw [hs] at h1
  cases h1
  have hb : b = b1 := (h2.gb.own rfl).1
  subst hb
  have hc : col b = 5 := h3 rfl
  exact ⟨h, h.vl.m 5, ⟨b, c, h2.cut hm, fun _ => ⟨.inl hc, fun hh => by have := h.vl.kept _ hh; omega⟩⟩, Ch.refl _ _, fun q hq => by cases hq; exact .inl hc⟩
theorem VT.cutJ (h : VT w0 H0 col0 bc cs0 w H col cs V) {b cap m : Nat} (hs : cs[10629]? = some (.slice (some ⟨b, 0, none⟩) V.journal.length cap)) (hm : m ≤ V.journal.length) : VM P_ee 9 4 w0 H0 col0 bc cs0 w w H col cs V (.slice (some ⟨b, 0, none⟩) m cap) (V.journal.take m) := by
  obtain ⟨v, b1, c, h1, h2, h3⟩ := h.vl.jou
  rw [hs] at h1
  cases h1
  have hb : b = b1 := (h2.gb.own rfl).1
  subst hb
  have hc : col b = 4 := h3 rfl
  exact ⟨h, h.vl.m 4, ⟨b, c, h2.cut hm, fun _ => ⟨.inl hc, fun hh => by have := h.vl.kept _ hh; omega⟩⟩, Ch.refl _ _, fun q hq => by cases hq; exact .inl hc⟩
theorem VL.logAt (h : VL w H col bc cs V) (hn : V.logs ≠ []) : ∃ b cap, cs[27016]? = some (.slice (some ⟨b, 0, none⟩) V.logs.length cap) ∧ V.logs.length ≤ cap := by
  obtain ⟨v, b1, c, h1, h2, h3⟩ := h.log
  obtain ⟨cap, e1, e2, _⟩ := h2.gb.pos (List.length_pos_iff.2 hn)
  subst e1
  exact ⟨b1, cap, h1, e2⟩
end
theorem v_undo0 {w : World} {H : Store} {col : Nat → Nat} {bc : Nat} {cs : Array Value} {V : EV} (hV : VL w H col bc cs V) (ho : VOk V) {i : Nat} {e : EEnt} {bj oj : Nat} {cj : Array Value} {vb : Value} (hJ : JAt w H col V i e bj cj vb) (hoj : oj = i * 9) (hE : EIn V e) (hk : e.kind = 0) :
    Ret 399 [.pointer (some ⟨bc, 2435, none⟩), .pointer (some ⟨bj, oj, none⟩)] w (fun v w' => v = .bool true ∧ ∃ col' cs', VT w H col bc cs w' H col' cs' (undoE V e)) := by
  have hT := VT.refl hV
  have hnw := hV.new
  have hcC := hV.colC
  have hml := ho.bd.marks
  have hpl : e.pl < V.accts.length := hE.a (by omega)
  obtain ⟨x9, hx9⟩ : ∃ x9, V.accts[e.pl]? = some x9 := ⟨_, List.getElem?_eq_getElem hpl⟩
  obtain ⟨ba, ca, cap9, vc9, hAA⟩ := hV.acct hx9
  have hac := hAA.col
  have hjc := hJ.col
  have hfit := hAA.fit
  have hok := hAA.ok
  have hke := hJ.ok
  have hkb := hke.kind
  have hkp := hke.pl
  refine enter (n := 221) Hvaa.func399 rfl rfl (Nat.le_of_ble_eq_true rfl) ?_
  have U : Ch (fun _ => True) w w := Ch.refl _ w
  refine c_seq (fun K1 hK1 => ?_)
  exact (by
    refine c_region ?_
    refine l_step y_assignC ?_
    refine l_nil ?_
    refine hK1 _ _ ?_
    refine fg2 1 0 (gS rfl (gS rfl g0)) (gS rfl g0) (fun g => ?_)
    refine c_seq (fun K2 hK2 => ?_)
    refine c_seq (fun K3 hK3 => ?_)
    exact (by
      refine c_region ?_
      refine l_step (y_moveV (et (gS rfl g0) rfl)) ?_
      refine l_step (y_nil (et g0 rfl)) ?_
      refine l_step (y_fld fld_218_0 (et g0 rfl)) ?_
      refine l_step (y_load1 one_5 (et g0 rfl) (at1 (hJ.cKind (by omega)))) ?_
      refine l_nil ?_
      refine hK3 _ _ ?_
      refine fg3 1 0 9 (gS rfl (gS rfl (gS rfl (gS rfl (gS rfl g0))))) (gS rfl (gS rfl (gS rfl (gS rfl g0)))) g0 (fun g => ?_)
      refine c_block (fun Q4 hQ4 => ?_)
      refine c_seq (fun K5 hK5 => ?_)
      refine c_seq (fun K6 hK6 => ?_)
      exact (by
        refine c_region ?_
        refine l_step (y_eql (et g0 rfl) rfl) ?_
        refine l_step (y_assignV (et g0 rfl)) ?_
        refine l_nil ?_
        refine hK6 _ _ ?_
        refine fg4 1 0 9 10 (gS rfl (gS rfl (gS rfl (gS rfl g0)))) (gS rfl (gS rfl (gS rfl g0))) (gS rfl (gS rfl g0)) g0 (fun g => ?_)
        refine c_true (et g0 rfl) (by (exact decide_eq_true (by omega))) ?_
        refine c_skip ?_
        refine hK5 _ _ ?_
        refine c_true (et g0 rfl) (by (first | rfl | exact decide_eq_true (by omega))) ?_
        refine c_seq (fun K9 hK9 => ?_)
        refine c_seq (fun K10 hK10 => ?_)
        exact (by
          refine c_draw Up 18 [(0, true), (1, true), (2, true), (3, true), (4, true), (5, true), (6, true), (7, true), (8, true), (9, true), (10, true), (11, true), (12, true), (13, true), (14, true), (15, true), (16, true), (17, true)] (by kernel_rfl) (fun w11 hu => ⟨Up.refl _, ?_⟩)
          replace hT := hT.up hu
          replace hJ := hJ.up hu
          replace hAA := hAA.up hu
          replace U := U.tr hu
          have SU := Up.refl w11
          refine p_step (by exact rfl) (y_moveV (et (gS rfl (gS rfl (gS rfl g0))) rfl)) ?_
          refine p_step (by exact rfl) (y_nil (et g0 rfl)) ?_
          refine p_step (by exact rfl) (y_fld fld_218_1 (et g0 rfl)) ?_
          refine p_step (by exact rfl) (y_load1 one_21 (et g0 rfl) (atS (hJ.cAt (by omega)))) ?_
          refine p_step (by exact rfl) (y_lss (et g0 rfl) rfl) ?_
          refine p_step (by exact rfl) (y_moveV (et g0 rfl)) ?_
          refine gsplitP (i := 22) g0 (fun q12 => ?_) (fun q12 => ?_)
          · skip
            exact absurd (of_decide_eq_true q12) (by omega)
          · skip
            refine p_gstep (j := 5) (t := 22) (by exact rfl) (by exact rfl) (by exact rfl) (et g0 rfl) rfl (y_moveV (et (gS rfl (gS rfl (gS rfl (gS rfl (gS rfl (gS rfl (gS rfl (gS rfl (gS rfl (gS rfl g0)))))))))) rfl)) ?_
            refine p_gstep (j := 5) (t := 22) (by exact rfl) (by exact rfl) (by exact rfl) (et (gS rfl g0) rfl) rfl (y_nil (et g0 rfl)) ?_
            refine p_gstep (j := 5) (t := 22) (by exact rfl) (by exact rfl) (by exact rfl) (et (gS rfl (gS rfl g0)) rfl) rfl (y_fld fld_218_1 (et g0 rfl)) ?_
            refine p_gstep (j := 5) (t := 22) (by exact rfl) (by exact rfl) (by exact rfl) (et (gS rfl (gS rfl (gS rfl g0))) rfl) rfl (y_load1 one_21 (et g0 rfl) (atS (hJ.cAt (by omega)))) ?_
            refine p_gstep (j := 5) (t := 22) (by exact rfl) (by exact rfl) (by exact rfl) (et (gS rfl (gS rfl (gS rfl (gS rfl g0)))) rfl) rfl (y_conv Hvaa.underlying21 Hvaa.underlying3 (et g0 rfl) (wrapIN ?_)) ?_
            omega
            refine p_gstep (j := 5) (t := 22) (by exact rfl) (by exact rfl) (by exact rfl) (et (gS rfl (gS rfl (gS rfl (gS rfl (gS rfl g0))))) rfl) rfl (y_moveV (et (gS rfl (gS rfl (gS rfl (gS rfl (gS rfl (gS rfl (gS rfl (gS rfl (gS rfl (gS rfl (gS rfl (gS rfl (gS rfl (gS rfl g0)))))))))))))) rfl)) ?_
            refine p_gstep (j := 5) (t := 22) (by exact rfl) (by exact rfl) (by exact rfl) (et (gS rfl (gS rfl (gS rfl (gS rfl (gS rfl (gS rfl g0)))))) rfl) rfl (y_nil (et g0 rfl)) ?_
            refine p_gstep (j := 5) (t := 22) (by exact rfl) (by exact rfl) (by exact rfl) (et (gS rfl (gS rfl (gS rfl (gS rfl (gS rfl (gS rfl (gS rfl g0))))))) rfl) rfl (y_fld fld_84_0 (et g0 rfl)) ?_
            refine p_gstep (j := 5) (t := 22) (by exact rfl) (by exact rfl) (by exact rfl) (et (gS rfl (gS rfl (gS rfl (gS rfl (gS rfl (gS rfl (gS rfl (gS rfl g0)))))))) rfl) rfl (y_load1 one_76 (et g0 rfl) (atS (hT.vl.c1 hAA.sl rfl))) ?_
            refine p_gstep (j := 5) (t := 22) (by exact rfl) (by exact rfl) (by exact rfl) (et (gS rfl (gS rfl (gS rfl (gS rfl (gS rfl (gS rfl (gS rfl (gS rfl (gS rfl g0))))))))) rfl) rfl (y_len Hvaa.underlying76 (et g0 rfl)) ?_
            refine p_gstep (j := 5) (t := 22) (by exact rfl) (by exact rfl) (by exact rfl) (et (gS rfl (gS rfl (gS rfl (gS rfl (gS rfl (gS rfl (gS rfl (gS rfl (gS rfl (gS rfl g0)))))))))) rfl) rfl (y_geq (et (gS rfl (gS rfl (gS rfl (gS rfl (gS rfl g0))))) rfl) (et g0 rfl)) ?_
            refine p_step (by exact rfl) (y_pickF (et (gS rfl (gS rfl (gS rfl (gS rfl (gS rfl (gS rfl (gS rfl (gS rfl (gS rfl (gS rfl (gS rfl g0))))))))))) rfl) (et g0 rfl)) ?_
            refine p_nil ?_
            refine hK10 _ _ ?_
            refine fg3 1 0 34 (gS rfl (gS rfl (gS rfl (gS rfl (gS rfl (gS rfl (gS rfl (gS rfl (gS rfl (gS rfl (gS rfl (gS rfl (gS rfl (gS rfl (gS rfl (gS rfl (gS rfl (gS rfl (gS rfl (gS rfl (gS rfl (gS rfl g0)))))))))))))))))))))) (gS rfl (gS rfl (gS rfl (gS rfl (gS rfl (gS rfl (gS rfl (gS rfl (gS rfl (gS rfl (gS rfl (gS rfl (gS rfl (gS rfl (gS rfl (gS rfl (gS rfl (gS rfl (gS rfl (gS rfl (gS rfl g0))))))))))))))))))))) g0 (fun g => ?_)
            refine c_false (et g0 rfl) (by (exact decide_eq_false (by omega))) ?_
            refine c_skip ?_
            refine hK9 _ _ ?_
            refine fg2 1 0 (gS rfl (gS rfl g0)) (gS rfl g0) (fun g => ?_)
            refine c_seq (fun K14 hK14 => ?_)
            exact (by
              refine c_draw Up 10 [(0, true), (1, true), (2, true), (3, true), (4, true), (5, true), (6, true), (7, true), (8, true), (9, true)] (by kernel_rfl) (fun w15 hu => ⟨Up.refl _, ?_⟩)
              replace hT := hT.up hu
              replace hJ := hJ.up hu
              replace hAA := hAA.up hu
              replace U := U.tr hu
              have SU := Up.refl w15
              refine p_step (by exact rfl) (y_moveV (et g0 rfl)) ?_
              refine p_step (by exact rfl) (y_nil (et g0 rfl)) ?_
              refine p_step (by exact rfl) (y_fld fld_84_0 (et g0 rfl)) ?_
              refine p_step (by exact rfl) (y_load1 one_76 (et g0 rfl) (atS (hT.vl.c1 hAA.sl rfl))) ?_
              refine p_step (by exact rfl) (y_moveV (et (gS rfl (gS rfl (gS rfl (gS rfl (gS rfl g0))))) rfl)) ?_
              refine p_step (by exact rfl) (y_nil (et g0 rfl)) ?_
              refine p_step (by exact rfl) (y_fld fld_218_1 (et g0 rfl)) ?_
              refine p_step (by exact rfl) (y_load1 one_21 (et g0 rfl) (atS (hJ.cAt (by omega)))) ?_
              refine p_step (by exact rfl) (y_idxS Hvaa.underlying76 sz_167 (et (gS rfl (gS rfl (gS rfl (gS rfl g0)))) rfl) (et g0 rfl) ?_ ?_) ?_
              omega
              omega
              refine p_step (by exact rfl) (y_assignV (et g0 rfl)) ?_
              refine p_nil ?_
              refine hK14 _ _ ?_
              refine fg2 1 5 (gS rfl (gS rfl (gS rfl (gS rfl (gS rfl (gS rfl (gS rfl (gS rfl (gS rfl (gS rfl (gS rfl g0))))))))))) g0 (fun g => ?_)
              refine c_seq (fun K16 hK16 => ?_)
              exact (by
                refine c_region ?_
                refine l_step (y_moveV (et (gS rfl g0) rfl)) ?_
                refine l_step (y_nil (et g0 rfl)) ?_
                refine l_step (y_fld fld_218_0 (et g0 rfl)) ?_
                refine l_step (y_load1 one_5 (et g0 rfl) (at1 (hJ.cKind (by omega)))) ?_
                refine l_nil ?_
                refine hK16 _ _ ?_
                refine fg3 1 5 47 (gS rfl (gS rfl (gS rfl (gS rfl (gS rfl g0))))) (gS rfl (gS rfl (gS rfl (gS rfl g0)))) g0 (fun g => ?_)
                refine c_block (fun Q17 hQ17 => ?_)
                refine c_seq (fun K18 hK18 => ?_)
                exact (by
                  refine c_region ?_
                  refine l_step (y_eql (et g0 rfl) rfl) ?_
                  refine l_step (y_assignV (et g0 rfl)) ?_
                  refine l_nil ?_
                  refine hK18 _ _ ?_
                  refine fg4 1 5 47 48 (gS rfl (gS rfl (gS rfl (gS rfl g0)))) (gS rfl (gS rfl (gS rfl g0))) (gS rfl (gS rfl g0)) g0 (fun g => ?_)
                  refine c_true (et g0 rfl) (by (exact decide_eq_true (by omega))) ?_
                  exact (by
                    refine c_region ?_
                    refine l_step (y_moveV (et (gS rfl (gS rfl g0)) rfl)) ?_
                    refine l_step (y_moveV (et (gS rfl (gS rfl (gS rfl (gS rfl g0)))) rfl)) ?_
                    refine l_step (y_nil (et g0 rfl)) ?_
                    refine l_step (y_fld fld_218_3 (et g0 rfl)) ?_
                    refine l_step (y_loadR agg_65 sz_65 (et g0 rfl) rfl (at1R (hJ.rW (by omega)))) ?_
                    refine l_step (y_nil (et (gS rfl (gS rfl (gS rfl (gS rfl g0)))) rfl)) ?_
                    refine l_step (y_fld fld_167_2 (et g0 rfl)) ?_
                    refine l_effN (e_store sz_65 (et g0 rfl) (cellsV (et (gS rfl (gS rfl g0)) rfl) rfl) rfl (by exact one_uL _) hAA.kA (by have h9 := hfit; omega)) (fun v20 w20 h20 => ?_)
                    obtain ⟨rfl, x20⟩ := h20
                    have hv20 := hT.setA hAA (j := 21) (y := { x9 with bal := e.w }) (by omega) x20 ea_bal (Nat.le_of_ble_eq_true rfl) hAA.code ⟨hok.addr, hok.nonce, hke.w, hok.code⟩
                    replace hT := hv20
                    replace U := U.cc x20.ch (by intro b hb; exact .inl trivial)
                    refine l_nil ?_
                    refine hQ17 _ _ _ (in_normal ?_)
                    refine hQ4 _ _ _ (in_normal ?_)
                    refine hK2 _ _ ?_
                    refine fg0 (fun g => ?_)
                    refine c_seq (fun K21 hK21 => ?_)
                    exact (by
                      refine c_region ?_
                      refine l_step y_assignC ?_
                      refine l_nil ?_
                      refine hK21 _ _ ?_
                      refine c_ret ?_
                      repeat with_reducible refine then_ret ?_
                      refine ret1 rfl (res_tmp (et g0 rfl)) ?_
                      refine ⟨rfl, col, cs, ?_⟩
                      rw [u_0 hk, mod_set hx9]
                      exact hT)))))))))
theorem v_undo1 {w : World} {H : Store} {col : Nat → Nat} {bc : Nat} {cs : Array Value} {V : EV} (hV : VL w H col bc cs V) (ho : VOk V) {i : Nat} {e : EEnt} {bj oj : Nat} {cj : Array Value} {vb : Value} (hJ : JAt w H col V i e bj cj vb) (hoj : oj = i * 9) (hE : EIn V e) (hk : e.kind = 1) :
    Ret 399 [.pointer (some ⟨bc, 2435, none⟩), .pointer (some ⟨bj, oj, none⟩)] w (fun v w' => v = .bool true ∧ ∃ col' cs', VT w H col bc cs w' H col' cs' (undoE V e)) := by
  have hT := VT.refl hV
  have hnw := hV.new
  have hcC := hV.colC
  have hml := ho.bd.marks
  have hpl : e.pl < V.accts.length := hE.a (by omega)
  obtain ⟨x9, hx9⟩ : ∃ x9, V.accts[e.pl]? = some x9 := ⟨_, List.getElem?_eq_getElem hpl⟩
  obtain ⟨ba, ca, cap9, vc9, hAA⟩ := hV.acct hx9
  have hac := hAA.col
  have hjc := hJ.col
  have hfit := hAA.fit
  have hok := hAA.ok
  have hke := hJ.ok
  have hkb := hke.kind
  have hkp := hke.pl
  refine enter (n := 221) Hvaa.func399 rfl rfl (Nat.le_of_ble_eq_true rfl) ?_
  have U : Ch (fun _ => True) w w := Ch.refl _ w
  refine c_seq (fun K1 hK1 => ?_)
  exact (by
    refine c_region ?_
    refine l_step y_assignC ?_
    refine l_nil ?_
    refine hK1 _ _ ?_
    refine fg2 1 0 (gS rfl (gS rfl g0)) (gS rfl g0) (fun g => ?_)
    refine c_seq (fun K2 hK2 => ?_)
    refine c_seq (fun K3 hK3 => ?_)
    exact (by
      refine c_region ?_
      refine l_step (y_moveV (et (gS rfl g0) rfl)) ?_
      refine l_step (y_nil (et g0 rfl)) ?_
      refine l_step (y_fld fld_218_0 (et g0 rfl)) ?_
      refine l_step (y_load1 one_5 (et g0 rfl) (at1 (hJ.cKind (by omega)))) ?_
      refine l_nil ?_
      refine hK3 _ _ ?_
      refine fg3 1 0 9 (gS rfl (gS rfl (gS rfl (gS rfl (gS rfl g0))))) (gS rfl (gS rfl (gS rfl (gS rfl g0)))) g0 (fun g => ?_)
      refine c_block (fun Q4 hQ4 => ?_)
      refine c_seq (fun K5 hK5 => ?_)
      refine c_seq (fun K6 hK6 => ?_)
      exact (by
        refine c_region ?_
        refine l_step (y_eql (et g0 rfl) rfl) ?_
        refine l_step (y_assignV (et g0 rfl)) ?_
        refine l_nil ?_
        refine hK6 _ _ ?_
        refine fg4 1 0 9 10 (gS rfl (gS rfl (gS rfl (gS rfl g0)))) (gS rfl (gS rfl (gS rfl g0))) (gS rfl (gS rfl g0)) g0 (fun g => ?_)
        refine c_false (et g0 rfl) (by (exact decide_eq_false (by omega))) ?_
        refine c_seq (fun K8 hK8 => ?_)
        exact (by
          refine c_region ?_
          refine l_step (y_eql (et (gS rfl g0) rfl) rfl) ?_
          refine l_step (y_assignV (et g0 rfl)) ?_
          refine l_nil ?_
          refine hK8 _ _ ?_
          refine fg4 1 0 9 10 (gS rfl (gS rfl (gS rfl (gS rfl (gS rfl g0))))) (gS rfl (gS rfl (gS rfl (gS rfl g0)))) (gS rfl (gS rfl (gS rfl g0))) g0 (fun g => ?_)
          refine c_true (et g0 rfl) (by (exact decide_eq_true (by omega))) ?_
          refine c_skip ?_
          refine hK5 _ _ ?_
          refine c_true (et g0 rfl) (by (first | rfl | exact decide_eq_true (by omega))) ?_
          refine c_seq (fun K11 hK11 => ?_)
          refine c_seq (fun K12 hK12 => ?_)
          exact (by
            refine c_draw Up 18 [(0, true), (1, true), (2, true), (3, true), (4, true), (5, true), (6, true), (7, true), (8, true), (9, true), (10, true), (11, true), (12, true), (13, true), (14, true), (15, true), (16, true), (17, true)] (by kernel_rfl) (fun w13 hu => ⟨Up.refl _, ?_⟩)
            replace hT := hT.up hu
            replace hJ := hJ.up hu
            replace hAA := hAA.up hu
            replace U := U.tr hu
            have SU := Up.refl w13
            refine p_step (by exact rfl) (y_moveV (et (gS rfl (gS rfl (gS rfl g0))) rfl)) ?_
            refine p_step (by exact rfl) (y_nil (et g0 rfl)) ?_
            refine p_step (by exact rfl) (y_fld fld_218_1 (et g0 rfl)) ?_
            refine p_step (by exact rfl) (y_load1 one_21 (et g0 rfl) (atS (hJ.cAt (by omega)))) ?_
            refine p_step (by exact rfl) (y_lss (et g0 rfl) rfl) ?_
            refine p_step (by exact rfl) (y_moveV (et g0 rfl)) ?_
            refine gsplitP (i := 22) g0 (fun q14 => ?_) (fun q14 => ?_)
            · skip
              exact absurd (of_decide_eq_true q14) (by omega)
            · skip
              refine p_gstep (j := 5) (t := 22) (by exact rfl) (by exact rfl) (by exact rfl) (et g0 rfl) rfl (y_moveV (et (gS rfl (gS rfl (gS rfl (gS rfl (gS rfl (gS rfl (gS rfl (gS rfl (gS rfl (gS rfl g0)))))))))) rfl)) ?_
              refine p_gstep (j := 5) (t := 22) (by exact rfl) (by exact rfl) (by exact rfl) (et (gS rfl g0) rfl) rfl (y_nil (et g0 rfl)) ?_
              refine p_gstep (j := 5) (t := 22) (by exact rfl) (by exact rfl) (by exact rfl) (et (gS rfl (gS rfl g0)) rfl) rfl (y_fld fld_218_1 (et g0 rfl)) ?_
              refine p_gstep (j := 5) (t := 22) (by exact rfl) (by exact rfl) (by exact rfl) (et (gS rfl (gS rfl (gS rfl g0))) rfl) rfl (y_load1 one_21 (et g0 rfl) (atS (hJ.cAt (by omega)))) ?_
              refine p_gstep (j := 5) (t := 22) (by exact rfl) (by exact rfl) (by exact rfl) (et (gS rfl (gS rfl (gS rfl (gS rfl g0)))) rfl) rfl (y_conv Hvaa.underlying21 Hvaa.underlying3 (et g0 rfl) (wrapIN ?_)) ?_
              omega
              refine p_gstep (j := 5) (t := 22) (by exact rfl) (by exact rfl) (by exact rfl) (et (gS rfl (gS rfl (gS rfl (gS rfl (gS rfl g0))))) rfl) rfl (y_moveV (et (gS rfl (gS rfl (gS rfl (gS rfl (gS rfl (gS rfl (gS rfl (gS rfl (gS rfl (gS rfl (gS rfl (gS rfl (gS rfl (gS rfl g0)))))))))))))) rfl)) ?_
              refine p_gstep (j := 5) (t := 22) (by exact rfl) (by exact rfl) (by exact rfl) (et (gS rfl (gS rfl (gS rfl (gS rfl (gS rfl (gS rfl g0)))))) rfl) rfl (y_nil (et g0 rfl)) ?_
              refine p_gstep (j := 5) (t := 22) (by exact rfl) (by exact rfl) (by exact rfl) (et (gS rfl (gS rfl (gS rfl (gS rfl (gS rfl (gS rfl (gS rfl g0))))))) rfl) rfl (y_fld fld_84_0 (et g0 rfl)) ?_
              refine p_gstep (j := 5) (t := 22) (by exact rfl) (by exact rfl) (by exact rfl) (et (gS rfl (gS rfl (gS rfl (gS rfl (gS rfl (gS rfl (gS rfl (gS rfl g0)))))))) rfl) rfl (y_load1 one_76 (et g0 rfl) (atS (hT.vl.c1 hAA.sl rfl))) ?_
              refine p_gstep (j := 5) (t := 22) (by exact rfl) (by exact rfl) (by exact rfl) (et (gS rfl (gS rfl (gS rfl (gS rfl (gS rfl (gS rfl (gS rfl (gS rfl (gS rfl g0))))))))) rfl) rfl (y_len Hvaa.underlying76 (et g0 rfl)) ?_
              refine p_gstep (j := 5) (t := 22) (by exact rfl) (by exact rfl) (by exact rfl) (et (gS rfl (gS rfl (gS rfl (gS rfl (gS rfl (gS rfl (gS rfl (gS rfl (gS rfl (gS rfl g0)))))))))) rfl) rfl (y_geq (et (gS rfl (gS rfl (gS rfl (gS rfl (gS rfl g0))))) rfl) (et g0 rfl)) ?_
              refine p_step (by exact rfl) (y_pickF (et (gS rfl (gS rfl (gS rfl (gS rfl (gS rfl (gS rfl (gS rfl (gS rfl (gS rfl (gS rfl (gS rfl g0))))))))))) rfl) (et g0 rfl)) ?_
              refine p_nil ?_
              refine hK12 _ _ ?_
              refine fg3 1 0 34 (gS rfl (gS rfl (gS rfl (gS rfl (gS rfl (gS rfl (gS rfl (gS rfl (gS rfl (gS rfl (gS rfl (gS rfl (gS rfl (gS rfl (gS rfl (gS rfl (gS rfl (gS rfl (gS rfl (gS rfl (gS rfl (gS rfl g0)))))))))))))))))))))) (gS rfl (gS rfl (gS rfl (gS rfl (gS rfl (gS rfl (gS rfl (gS rfl (gS rfl (gS rfl (gS rfl (gS rfl (gS rfl (gS rfl (gS rfl (gS rfl (gS rfl (gS rfl (gS rfl (gS rfl (gS rfl g0))))))))))))))))))))) g0 (fun g => ?_)
              refine c_false (et g0 rfl) (by (exact decide_eq_false (by omega))) ?_
              refine c_skip ?_
              refine hK11 _ _ ?_
              refine fg2 1 0 (gS rfl (gS rfl g0)) (gS rfl g0) (fun g => ?_)
              refine c_seq (fun K16 hK16 => ?_)
              exact (by
                refine c_draw Up 10 [(0, true), (1, true), (2, true), (3, true), (4, true), (5, true), (6, true), (7, true), (8, true), (9, true)] (by kernel_rfl) (fun w17 hu => ⟨Up.refl _, ?_⟩)
                replace hT := hT.up hu
                replace hJ := hJ.up hu
                replace hAA := hAA.up hu
                replace U := U.tr hu
                have SU := Up.refl w17
                refine p_step (by exact rfl) (y_moveV (et g0 rfl)) ?_
                refine p_step (by exact rfl) (y_nil (et g0 rfl)) ?_
                refine p_step (by exact rfl) (y_fld fld_84_0 (et g0 rfl)) ?_
                refine p_step (by exact rfl) (y_load1 one_76 (et g0 rfl) (atS (hT.vl.c1 hAA.sl rfl))) ?_
                refine p_step (by exact rfl) (y_moveV (et (gS rfl (gS rfl (gS rfl (gS rfl (gS rfl g0))))) rfl)) ?_
                refine p_step (by exact rfl) (y_nil (et g0 rfl)) ?_
                refine p_step (by exact rfl) (y_fld fld_218_1 (et g0 rfl)) ?_
                refine p_step (by exact rfl) (y_load1 one_21 (et g0 rfl) (atS (hJ.cAt (by omega)))) ?_
                refine p_step (by exact rfl) (y_idxS Hvaa.underlying76 sz_167 (et (gS rfl (gS rfl (gS rfl (gS rfl g0)))) rfl) (et g0 rfl) ?_ ?_) ?_
                omega
                omega
                refine p_step (by exact rfl) (y_assignV (et g0 rfl)) ?_
                refine p_nil ?_
                refine hK16 _ _ ?_
                refine fg2 1 5 (gS rfl (gS rfl (gS rfl (gS rfl (gS rfl (gS rfl (gS rfl (gS rfl (gS rfl (gS rfl (gS rfl g0))))))))))) g0 (fun g => ?_)
                refine c_seq (fun K18 hK18 => ?_)
                exact (by
                  refine c_region ?_
                  refine l_step (y_moveV (et (gS rfl g0) rfl)) ?_
                  refine l_step (y_nil (et g0 rfl)) ?_
                  refine l_step (y_fld fld_218_0 (et g0 rfl)) ?_
                  refine l_step (y_load1 one_5 (et g0 rfl) (at1 (hJ.cKind (by omega)))) ?_
                  refine l_nil ?_
                  refine hK18 _ _ ?_
                  refine fg3 1 5 47 (gS rfl (gS rfl (gS rfl (gS rfl (gS rfl g0))))) (gS rfl (gS rfl (gS rfl (gS rfl g0)))) g0 (fun g => ?_)
                  refine c_block (fun Q19 hQ19 => ?_)
                  refine c_seq (fun K20 hK20 => ?_)
                  exact (by
                    refine c_region ?_
                    refine l_step (y_eql (et g0 rfl) rfl) ?_
                    refine l_step (y_assignV (et g0 rfl)) ?_
                    refine l_nil ?_
                    refine hK20 _ _ ?_
                    refine fg4 1 5 47 48 (gS rfl (gS rfl (gS rfl (gS rfl g0)))) (gS rfl (gS rfl (gS rfl g0))) (gS rfl (gS rfl g0)) g0 (fun g => ?_)
                    refine c_false (et g0 rfl) (by (exact decide_eq_false (by omega))) ?_
                    refine c_seq (fun K22 hK22 => ?_)
                    exact (by
                      refine c_region ?_
                      refine l_step (y_eql (et (gS rfl g0) rfl) rfl) ?_
                      refine l_step (y_assignV (et g0 rfl)) ?_
                      refine l_nil ?_
                      refine hK22 _ _ ?_
                      refine fg4 1 5 47 57 (gS rfl (gS rfl (gS rfl (gS rfl (gS rfl g0))))) (gS rfl (gS rfl (gS rfl (gS rfl g0)))) (gS rfl (gS rfl (gS rfl g0))) g0 (fun g => ?_)
                      refine c_true (et g0 rfl) (by (exact decide_eq_true (by omega))) ?_
                      exact (by
                        refine c_region ?_
                        refine l_step (y_moveV (et (gS rfl (gS rfl g0)) rfl)) ?_
                        refine l_step (y_moveV (et (gS rfl (gS rfl (gS rfl (gS rfl g0)))) rfl)) ?_
                        refine l_step (y_nil (et g0 rfl)) ?_
                        refine l_step (y_fld fld_218_2 (et g0 rfl)) ?_
                        refine l_step (y_load1 one_26 (et g0 rfl) (at1 (hJ.cN (by omega)))) ?_
                        refine l_step (y_nil (et (gS rfl (gS rfl (gS rfl (gS rfl g0)))) rfl)) ?_
                        refine l_step (y_fld fld_167_1 (et g0 rfl)) ?_
                        refine l_effN (e_store sz_26 (et g0 rfl) (cellsV (et (gS rfl (gS rfl g0)) rfl) rfl) rfl (by intro v hv; simp at hv; subst hv; rfl) hAA.kA (by have h9 := hfit; omega)) (fun v24 w24 h24 => ?_)
                        obtain ⟨rfl, x24⟩ := h24
                        have hv24 := hT.setA hAA (j := 20) (y := { x9 with nonce := e.n }) (by omega) x24 ea_nonce (Nat.le_of_ble_eq_true rfl) hAA.code ⟨hok.addr, hke.n, hok.bal, hok.code⟩
                        replace hT := hv24
                        replace U := U.cc x24.ch (by intro b hb; exact .inl trivial)
                        refine l_nil ?_
                        refine hQ19 _ _ _ (in_normal ?_)
                        refine hQ4 _ _ _ (in_normal ?_)
                        refine hK2 _ _ ?_
                        refine fg0 (fun g => ?_)
                        refine c_seq (fun K25 hK25 => ?_)
                        exact (by
                          refine c_region ?_
                          refine l_step y_assignC ?_
                          refine l_nil ?_
                          refine hK25 _ _ ?_
                          refine c_ret ?_
                          repeat with_reducible refine then_ret ?_
                          refine ret1 rfl (res_tmp (et g0 rfl)) ?_
                          refine ⟨rfl, col, cs, ?_⟩
                          rw [u_1 hk, mod_set hx9]
                          exact hT)))))))))))
theorem v_undo2 {w : World} {H : Store} {col : Nat → Nat} {bc : Nat} {cs : Array Value} {V : EV} (hV : VL w H col bc cs V) (ho : VOk V) {i : Nat} {e : EEnt} {bj oj : Nat} {cj : Array Value} {vb : Value} (hJ : JAt w H col V i e bj cj vb) (hoj : oj = i * 9) (hE : EIn V e) (hk : e.kind = 2) :
    Ret 399 [.pointer (some ⟨bc, 2435, none⟩), .pointer (some ⟨bj, oj, none⟩)] w (fun v w' => v = .bool true ∧ ∃ col' cs', VT w H col bc cs w' H col' cs' (undoE V e)) := by
  have hT := VT.refl hV
  have hnw := hV.new
  have hcC := hV.colC
  have hml := ho.bd.marks
  have hpl : e.pl < V.accts.length := hE.a (by omega)
  obtain ⟨x9, hx9⟩ : ∃ x9, V.accts[e.pl]? = some x9 := ⟨_, List.getElem?_eq_getElem hpl⟩
  obtain ⟨ba, ca, cap9, vc9, hAA⟩ := hV.acct hx9
  have hac := hAA.col
  have hjc := hJ.col
  have hfit := hAA.fit
  have hok := hAA.ok
  have hke := hJ.ok
  have hkb := hke.kind
  have hkp := hke.pl
  obtain ⟨va8, vd8, rfl, _⟩ := hJ.code.sv.val
  refine enter (n := 221) Hvaa.func399 rfl rfl (Nat.le_of_ble_eq_true rfl) ?_
  have U : Ch (fun _ => True) w w := Ch.refl _ w
  refine c_seq (fun K1 hK1 => ?_)
  exact (by
    refine c_region ?_
    refine l_step y_assignC ?_
    refine l_nil ?_
    refine hK1 _ _ ?_
    refine fg2 1 0 (gS rfl (gS rfl g0)) (gS rfl g0) (fun g => ?_)
    refine c_seq (fun K2 hK2 => ?_)
    refine c_seq (fun K3 hK3 => ?_)
    exact (by
      refine c_region ?_
      refine l_step (y_moveV (et (gS rfl g0) rfl)) ?_
      refine l_step (y_nil (et g0 rfl)) ?_
      refine l_step (y_fld fld_218_0 (et g0 rfl)) ?_
      refine l_step (y_load1 one_5 (et g0 rfl) (at1 (hJ.cKind (by omega)))) ?_
      refine l_nil ?_
      refine hK3 _ _ ?_
      refine fg3 1 0 9 (gS rfl (gS rfl (gS rfl (gS rfl (gS rfl g0))))) (gS rfl (gS rfl (gS rfl (gS rfl g0)))) g0 (fun g => ?_)
      refine c_block (fun Q4 hQ4 => ?_)
      refine c_seq (fun K5 hK5 => ?_)
      refine c_seq (fun K6 hK6 => ?_)
      exact (by
        refine c_region ?_
        refine l_step (y_eql (et g0 rfl) rfl) ?_
        refine l_step (y_assignV (et g0 rfl)) ?_
        refine l_nil ?_
        refine hK6 _ _ ?_
        refine fg4 1 0 9 10 (gS rfl (gS rfl (gS rfl (gS rfl g0)))) (gS rfl (gS rfl (gS rfl g0))) (gS rfl (gS rfl g0)) g0 (fun g => ?_)
        refine c_false (et g0 rfl) (by (exact decide_eq_false (by omega))) ?_
        refine c_seq (fun K8 hK8 => ?_)
        exact (by
          refine c_region ?_
          refine l_step (y_eql (et (gS rfl g0) rfl) rfl) ?_
          refine l_step (y_assignV (et g0 rfl)) ?_
          refine l_nil ?_
          refine hK8 _ _ ?_
          refine fg4 1 0 9 10 (gS rfl (gS rfl (gS rfl (gS rfl (gS rfl g0))))) (gS rfl (gS rfl (gS rfl (gS rfl g0)))) (gS rfl (gS rfl (gS rfl g0))) g0 (fun g => ?_)
          refine c_false (et g0 rfl) (by (exact decide_eq_false (by omega))) ?_
          refine c_seq (fun K10 hK10 => ?_)
          exact (by
            refine c_region ?_
            refine l_step (y_eql (et (gS rfl g0) rfl) rfl) ?_
            refine l_step (y_assignV (et g0 rfl)) ?_
            refine l_nil ?_
            refine hK10 _ _ ?_
            refine fg4 1 0 9 10 (gS rfl (gS rfl (gS rfl (gS rfl (gS rfl g0))))) (gS rfl (gS rfl (gS rfl (gS rfl g0)))) (gS rfl (gS rfl (gS rfl g0))) g0 (fun g => ?_)
            refine c_true (et g0 rfl) (by (exact decide_eq_true (by omega))) ?_
            refine c_skip ?_
            refine hK5 _ _ ?_
            refine c_true (et g0 rfl) (by (first | rfl | exact decide_eq_true (by omega))) ?_
            refine c_seq (fun K13 hK13 => ?_)
            refine c_seq (fun K14 hK14 => ?_)
            exact (by
              refine c_draw Up 18 [(0, true), (1, true), (2, true), (3, true), (4, true), (5, true), (6, true), (7, true), (8, true), (9, true), (10, true), (11, true), (12, true), (13, true), (14, true), (15, true), (16, true), (17, true)] (by kernel_rfl) (fun w15 hu => ⟨Up.refl _, ?_⟩)
              replace hT := hT.up hu
              replace hJ := hJ.up hu
              replace hAA := hAA.up hu
              replace U := U.tr hu
              have SU := Up.refl w15
              refine p_step (by exact rfl) (y_moveV (et (gS rfl (gS rfl (gS rfl g0))) rfl)) ?_
              refine p_step (by exact rfl) (y_nil (et g0 rfl)) ?_
              refine p_step (by exact rfl) (y_fld fld_218_1 (et g0 rfl)) ?_
              refine p_step (by exact rfl) (y_load1 one_21 (et g0 rfl) (atS (hJ.cAt (by omega)))) ?_
              refine p_step (by exact rfl) (y_lss (et g0 rfl) rfl) ?_
              refine p_step (by exact rfl) (y_moveV (et g0 rfl)) ?_
              refine gsplitP (i := 22) g0 (fun q16 => ?_) (fun q16 => ?_)
              · skip
                exact absurd (of_decide_eq_true q16) (by omega)
              · skip
                refine p_gstep (j := 5) (t := 22) (by exact rfl) (by exact rfl) (by exact rfl) (et g0 rfl) rfl (y_moveV (et (gS rfl (gS rfl (gS rfl (gS rfl (gS rfl (gS rfl (gS rfl (gS rfl (gS rfl (gS rfl g0)))))))))) rfl)) ?_
                refine p_gstep (j := 5) (t := 22) (by exact rfl) (by exact rfl) (by exact rfl) (et (gS rfl g0) rfl) rfl (y_nil (et g0 rfl)) ?_
                refine p_gstep (j := 5) (t := 22) (by exact rfl) (by exact rfl) (by exact rfl) (et (gS rfl (gS rfl g0)) rfl) rfl (y_fld fld_218_1 (et g0 rfl)) ?_
                refine p_gstep (j := 5) (t := 22) (by exact rfl) (by exact rfl) (by exact rfl) (et (gS rfl (gS rfl (gS rfl g0))) rfl) rfl (y_load1 one_21 (et g0 rfl) (atS (hJ.cAt (by omega)))) ?_
                refine p_gstep (j := 5) (t := 22) (by exact rfl) (by exact rfl) (by exact rfl) (et (gS rfl (gS rfl (gS rfl (gS rfl g0)))) rfl) rfl (y_conv Hvaa.underlying21 Hvaa.underlying3 (et g0 rfl) (wrapIN ?_)) ?_
                omega
                refine p_gstep (j := 5) (t := 22) (by exact rfl) (by exact rfl) (by exact rfl) (et (gS rfl (gS rfl (gS rfl (gS rfl (gS rfl g0))))) rfl) rfl (y_moveV (et (gS rfl (gS rfl (gS rfl (gS rfl (gS rfl (gS rfl (gS rfl (gS rfl (gS rfl (gS rfl (gS rfl (gS rfl (gS rfl (gS rfl g0)))))))))))))) rfl)) ?_
                refine p_gstep (j := 5) (t := 22) (by exact rfl) (by exact rfl) (by exact rfl) (et (gS rfl (gS rfl (gS rfl (gS rfl (gS rfl (gS rfl g0)))))) rfl) rfl (y_nil (et g0 rfl)) ?_
                refine p_gstep (j := 5) (t := 22) (by exact rfl) (by exact rfl) (by exact rfl) (et (gS rfl (gS rfl (gS rfl (gS rfl (gS rfl (gS rfl (gS rfl g0))))))) rfl) rfl (y_fld fld_84_0 (et g0 rfl)) ?_
                refine p_gstep (j := 5) (t := 22) (by exact rfl) (by exact rfl) (by exact rfl) (et (gS rfl (gS rfl (gS rfl (gS rfl (gS rfl (gS rfl (gS rfl (gS rfl g0)))))))) rfl) rfl (y_load1 one_76 (et g0 rfl) (atS (hT.vl.c1 hAA.sl rfl))) ?_
                refine p_gstep (j := 5) (t := 22) (by exact rfl) (by exact rfl) (by exact rfl) (et (gS rfl (gS rfl (gS rfl (gS rfl (gS rfl (gS rfl (gS rfl (gS rfl (gS rfl g0))))))))) rfl) rfl (y_len Hvaa.underlying76 (et g0 rfl)) ?_
                refine p_gstep (j := 5) (t := 22) (by exact rfl) (by exact rfl) (by exact rfl) (et (gS rfl (gS rfl (gS rfl (gS rfl (gS rfl (gS rfl (gS rfl (gS rfl (gS rfl (gS rfl g0)))))))))) rfl) rfl (y_geq (et (gS rfl (gS rfl (gS rfl (gS rfl (gS rfl g0))))) rfl) (et g0 rfl)) ?_
                refine p_step (by exact rfl) (y_pickF (et (gS rfl (gS rfl (gS rfl (gS rfl (gS rfl (gS rfl (gS rfl (gS rfl (gS rfl (gS rfl (gS rfl g0))))))))))) rfl) (et g0 rfl)) ?_
                refine p_nil ?_
                refine hK14 _ _ ?_
                refine fg3 1 0 34 (gS rfl (gS rfl (gS rfl (gS rfl (gS rfl (gS rfl (gS rfl (gS rfl (gS rfl (gS rfl (gS rfl (gS rfl (gS rfl (gS rfl (gS rfl (gS rfl (gS rfl (gS rfl (gS rfl (gS rfl (gS rfl (gS rfl g0)))))))))))))))))))))) (gS rfl (gS rfl (gS rfl (gS rfl (gS rfl (gS rfl (gS rfl (gS rfl (gS rfl (gS rfl (gS rfl (gS rfl (gS rfl (gS rfl (gS rfl (gS rfl (gS rfl (gS rfl (gS rfl (gS rfl (gS rfl g0))))))))))))))))))))) g0 (fun g => ?_)
                refine c_false (et g0 rfl) (by (exact decide_eq_false (by omega))) ?_
                refine c_skip ?_
                refine hK13 _ _ ?_
                refine fg2 1 0 (gS rfl (gS rfl g0)) (gS rfl g0) (fun g => ?_)
                refine c_seq (fun K18 hK18 => ?_)
                exact (by
                  refine c_draw Up 10 [(0, true), (1, true), (2, true), (3, true), (4, true), (5, true), (6, true), (7, true), (8, true), (9, true)] (by kernel_rfl) (fun w19 hu => ⟨Up.refl _, ?_⟩)
                  replace hT := hT.up hu
                  replace hJ := hJ.up hu
                  replace hAA := hAA.up hu
                  replace U := U.tr hu
                  have SU := Up.refl w19
                  refine p_step (by exact rfl) (y_moveV (et g0 rfl)) ?_
                  refine p_step (by exact rfl) (y_nil (et g0 rfl)) ?_
                  refine p_step (by exact rfl) (y_fld fld_84_0 (et g0 rfl)) ?_
                  refine p_step (by exact rfl) (y_load1 one_76 (et g0 rfl) (atS (hT.vl.c1 hAA.sl rfl))) ?_
                  refine p_step (by exact rfl) (y_moveV (et (gS rfl (gS rfl (gS rfl (gS rfl (gS rfl g0))))) rfl)) ?_
                  refine p_step (by exact rfl) (y_nil (et g0 rfl)) ?_
                  refine p_step (by exact rfl) (y_fld fld_218_1 (et g0 rfl)) ?_
                  refine p_step (by exact rfl) (y_load1 one_21 (et g0 rfl) (atS (hJ.cAt (by omega)))) ?_
                  refine p_step (by exact rfl) (y_idxS Hvaa.underlying76 sz_167 (et (gS rfl (gS rfl (gS rfl (gS rfl g0)))) rfl) (et g0 rfl) ?_ ?_) ?_
                  omega
                  omega
                  refine p_step (by exact rfl) (y_assignV (et g0 rfl)) ?_
                  refine p_nil ?_
                  refine hK18 _ _ ?_
                  refine fg2 1 5 (gS rfl (gS rfl (gS rfl (gS rfl (gS rfl (gS rfl (gS rfl (gS rfl (gS rfl (gS rfl (gS rfl g0))))))))))) g0 (fun g => ?_)
                  refine c_seq (fun K20 hK20 => ?_)
                  exact (by
                    refine c_region ?_
                    refine l_step (y_moveV (et (gS rfl g0) rfl)) ?_
                    refine l_step (y_nil (et g0 rfl)) ?_
                    refine l_step (y_fld fld_218_0 (et g0 rfl)) ?_
                    refine l_step (y_load1 one_5 (et g0 rfl) (at1 (hJ.cKind (by omega)))) ?_
                    refine l_nil ?_
                    refine hK20 _ _ ?_
                    refine fg3 1 5 47 (gS rfl (gS rfl (gS rfl (gS rfl (gS rfl g0))))) (gS rfl (gS rfl (gS rfl (gS rfl g0)))) g0 (fun g => ?_)
                    refine c_block (fun Q21 hQ21 => ?_)
                    refine c_seq (fun K22 hK22 => ?_)
                    exact (by
                      refine c_region ?_
                      refine l_step (y_eql (et g0 rfl) rfl) ?_
                      refine l_step (y_assignV (et g0 rfl)) ?_
                      refine l_nil ?_
                      refine hK22 _ _ ?_
                      refine fg4 1 5 47 48 (gS rfl (gS rfl (gS rfl (gS rfl g0)))) (gS rfl (gS rfl (gS rfl g0))) (gS rfl (gS rfl g0)) g0 (fun g => ?_)
                      refine c_false (et g0 rfl) (by (exact decide_eq_false (by omega))) ?_
                      refine c_seq (fun K24 hK24 => ?_)
                      exact (by
                        refine c_region ?_
                        refine l_step (y_eql (et (gS rfl g0) rfl) rfl) ?_
                        refine l_step (y_assignV (et g0 rfl)) ?_
                        refine l_nil ?_
                        refine hK24 _ _ ?_
                        refine fg4 1 5 47 57 (gS rfl (gS rfl (gS rfl (gS rfl (gS rfl g0))))) (gS rfl (gS rfl (gS rfl (gS rfl g0)))) (gS rfl (gS rfl (gS rfl g0))) g0 (fun g => ?_)
                        refine c_false (et g0 rfl) (by (exact decide_eq_false (by omega))) ?_
                        refine c_seq (fun K26 hK26 => ?_)
                        exact (by
                          refine c_region ?_
                          refine l_step (y_eql (et (gS rfl g0) rfl) rfl) ?_
                          refine l_step (y_assignV (et g0 rfl)) ?_
                          refine l_nil ?_
                          refine hK26 _ _ ?_
                          refine fg4 1 5 47 66 (gS rfl (gS rfl (gS rfl (gS rfl (gS rfl g0))))) (gS rfl (gS rfl (gS rfl (gS rfl g0)))) (gS rfl (gS rfl (gS rfl g0))) g0 (fun g => ?_)
                          refine c_true (et g0 rfl) (by (exact decide_eq_true (by omega))) ?_
                          exact (by
                            refine c_region ?_
                            refine l_step (y_moveV (et (gS rfl (gS rfl g0)) rfl)) ?_
                            refine l_step (y_moveV (et (gS rfl (gS rfl (gS rfl (gS rfl g0)))) rfl)) ?_
                            refine l_step (y_nil (et g0 rfl)) ?_
                            refine l_step (y_fld fld_218_4 (et g0 rfl)) ?_
                            refine l_step (y_load1 one_38 (et g0 rfl) (at1 (hJ.cB (by omega)))) ?_
                            refine l_step (y_nil (et (gS rfl (gS rfl (gS rfl (gS rfl g0)))) rfl)) ?_
                            refine l_step (y_fld fld_167_3 (et g0 rfl)) ?_
                            refine l_effN (e_store sz_38 (et g0 rfl) (cellsV (et (gS rfl (gS rfl g0)) rfl) rfl) rfl (by intro v hv; simp at hv; subst hv; rfl) hAA.kA (by have h9 := hfit; omega)) (fun v28 w28 h28 => ?_)
                            obtain ⟨rfl, x28⟩ := h28
                            have hv28 := hT.setA hAA (j := 25) (y := { x9 with code := e.b }) (by omega) x28 ea_code (Nat.le_of_ble_eq_true rfl) hJ.code ⟨hok.addr, hok.nonce, hok.bal, hke.b⟩
                            replace hT := hv28
                            replace U := U.cc x28.ch (by intro b hb; exact .inl trivial)
                            refine l_nil ?_
                            refine hQ21 _ _ _ (in_normal ?_)
                            refine hQ4 _ _ _ (in_normal ?_)
                            refine hK2 _ _ ?_
                            refine fg0 (fun g => ?_)
                            refine c_seq (fun K29 hK29 => ?_)
                            exact (by
                              refine c_region ?_
                              refine l_step y_assignC ?_
                              refine l_nil ?_
                              refine hK29 _ _ ?_
                              refine c_ret ?_
                              repeat with_reducible refine then_ret ?_
                              refine ret1 rfl (res_tmp (et g0 rfl)) ?_
                              refine ⟨rfl, col, cs, ?_⟩
                              rw [u_2 hk, mod_set hx9]
                              exact hT)))))))))))))
theorem v_undo4 {w : World} {H : Store} {col : Nat → Nat} {bc : Nat} {cs : Array Value} {V : EV} (hV : VL w H col bc cs V) (ho : VOk V) {i : Nat} {e : EEnt} {bj oj : Nat} {cj : Array Value} {vb : Value} (hJ : JAt w H col V i e bj cj vb) (hoj : oj = i * 9) (hE : EIn V e) (hk : e.kind = 4) :
    Ret 399 [.pointer (some ⟨bc, 2435, none⟩), .pointer (some ⟨bj, oj, none⟩)] w (fun v w' => v = .bool true ∧ ∃ col' cs', VT w H col bc cs w' H col' cs' (undoE V e)) := by
  have hT := VT.refl hV
  have hnw := hV.new
  have hcC := hV.colC
  have hml := ho.bd.marks
  have hpl : e.pl < V.accts.length := hE.a (by omega)
  obtain ⟨x9, hx9⟩ : ∃ x9, V.accts[e.pl]? = some x9 := ⟨_, List.getElem?_eq_getElem hpl⟩
  obtain ⟨ba, ca, cap9, vc9, hAA⟩ := hV.acct hx9
  have hac := hAA.col
  have hjc := hJ.col
  have hfit := hAA.fit
  have hok := hAA.ok
  have hke := hJ.ok
  have hkb := hke.kind
  have hkp := hke.pl
  refine enter (n := 221) Hvaa.func399 rfl rfl (Nat.le_of_ble_eq_true rfl) ?_
  have U : Ch (fun _ => True) w w := Ch.refl _ w
  refine c_seq (fun K1 hK1 => ?_)
  exact (by
    refine c_region ?_
    refine l_step y_assignC ?_
    refine l_nil ?_
    refine hK1 _ _ ?_
    refine fg2 1 0 (gS rfl (gS rfl g0)) (gS rfl g0) (fun g => ?_)
    refine c_seq (fun K2 hK2 => ?_)
    refine c_seq (fun K3 hK3 => ?_)
    exact (by
      refine c_region ?_
      refine l_step (y_moveV (et (gS rfl g0) rfl)) ?_
      refine l_step (y_nil (et g0 rfl)) ?_
      refine l_step (y_fld fld_218_0 (et g0 rfl)) ?_
      refine l_step (y_load1 one_5 (et g0 rfl) (at1 (hJ.cKind (by omega)))) ?_
      refine l_nil ?_
      refine hK3 _ _ ?_
      refine fg3 1 0 9 (gS rfl (gS rfl (gS rfl (gS rfl (gS rfl g0))))) (gS rfl (gS rfl (gS rfl (gS rfl g0)))) g0 (fun g => ?_)
      refine c_block (fun Q4 hQ4 => ?_)
      refine c_seq (fun K5 hK5 => ?_)
      refine c_seq (fun K6 hK6 => ?_)
      exact (by
        refine c_region ?_
        refine l_step (y_eql (et g0 rfl) rfl) ?_
        refine l_step (y_assignV (et g0 rfl)) ?_
        refine l_nil ?_
        refine hK6 _ _ ?_
        refine fg4 1 0 9 10 (gS rfl (gS rfl (gS rfl (gS rfl g0)))) (gS rfl (gS rfl (gS rfl g0))) (gS rfl (gS rfl g0)) g0 (fun g => ?_)
        refine c_false (et g0 rfl) (by (exact decide_eq_false (by omega))) ?_
        refine c_seq (fun K8 hK8 => ?_)
        exact (by
          refine c_region ?_
          refine l_step (y_eql (et (gS rfl g0) rfl) rfl) ?_
          refine l_step (y_assignV (et g0 rfl)) ?_
          refine l_nil ?_
          refine hK8 _ _ ?_
          refine fg4 1 0 9 10 (gS rfl (gS rfl (gS rfl (gS rfl (gS rfl g0))))) (gS rfl (gS rfl (gS rfl (gS rfl g0)))) (gS rfl (gS rfl (gS rfl g0))) g0 (fun g => ?_)
          refine c_false (et g0 rfl) (by (exact decide_eq_false (by omega))) ?_
          refine c_seq (fun K10 hK10 => ?_)
          exact (by
            refine c_region ?_
            refine l_step (y_eql (et (gS rfl g0) rfl) rfl) ?_
            refine l_step (y_assignV (et g0 rfl)) ?_
            refine l_nil ?_
            refine hK10 _ _ ?_
            refine fg4 1 0 9 10 (gS rfl (gS rfl (gS rfl (gS rfl (gS rfl g0))))) (gS rfl (gS rfl (gS rfl (gS rfl g0)))) (gS rfl (gS rfl (gS rfl g0))) g0 (fun g => ?_)
            refine c_false (et g0 rfl) (by (exact decide_eq_false (by omega))) ?_
            refine c_seq (fun K12 hK12 => ?_)
            exact (by
              refine c_region ?_
              refine l_step (y_eql (et (gS rfl g0) rfl) rfl) ?_
              refine l_step (y_assignV (et g0 rfl)) ?_
              refine l_nil ?_
              refine hK12 _ _ ?_
              refine fg4 1 0 9 10 (gS rfl (gS rfl (gS rfl (gS rfl (gS rfl g0))))) (gS rfl (gS rfl (gS rfl (gS rfl g0)))) (gS rfl (gS rfl (gS rfl g0))) g0 (fun g => ?_)
              refine c_true (et g0 rfl) (by (exact decide_eq_true (by omega))) ?_
              refine c_skip ?_
              refine hK5 _ _ ?_
              refine c_true (et g0 rfl) (by (first | rfl | exact decide_eq_true (by omega))) ?_
              refine c_seq (fun K15 hK15 => ?_)
              refine c_seq (fun K16 hK16 => ?_)
              exact (by
                refine c_draw Up 18 [(0, true), (1, true), (2, true), (3, true), (4, true), (5, true), (6, true), (7, true), (8, true), (9, true), (10, true), (11, true), (12, true), (13, true), (14, true), (15, true), (16, true), (17, true)] (by kernel_rfl) (fun w17 hu => ⟨Up.refl _, ?_⟩)
                replace hT := hT.up hu
                replace hJ := hJ.up hu
                replace hAA := hAA.up hu
                replace U := U.tr hu
                have SU := Up.refl w17
                refine p_step (by exact rfl) (y_moveV (et (gS rfl (gS rfl (gS rfl g0))) rfl)) ?_
                refine p_step (by exact rfl) (y_nil (et g0 rfl)) ?_
                refine p_step (by exact rfl) (y_fld fld_218_1 (et g0 rfl)) ?_
                refine p_step (by exact rfl) (y_load1 one_21 (et g0 rfl) (atS (hJ.cAt (by omega)))) ?_
                refine p_step (by exact rfl) (y_lss (et g0 rfl) rfl) ?_
                refine p_step (by exact rfl) (y_moveV (et g0 rfl)) ?_
                refine gsplitP (i := 22) g0 (fun q18 => ?_) (fun q18 => ?_)
                · skip
                  exact absurd (of_decide_eq_true q18) (by omega)
                · skip
                  refine p_gstep (j := 5) (t := 22) (by exact rfl) (by exact rfl) (by exact rfl) (et g0 rfl) rfl (y_moveV (et (gS rfl (gS rfl (gS rfl (gS rfl (gS rfl (gS rfl (gS rfl (gS rfl (gS rfl (gS rfl g0)))))))))) rfl)) ?_
                  refine p_gstep (j := 5) (t := 22) (by exact rfl) (by exact rfl) (by exact rfl) (et (gS rfl g0) rfl) rfl (y_nil (et g0 rfl)) ?_
                  refine p_gstep (j := 5) (t := 22) (by exact rfl) (by exact rfl) (by exact rfl) (et (gS rfl (gS rfl g0)) rfl) rfl (y_fld fld_218_1 (et g0 rfl)) ?_
                  refine p_gstep (j := 5) (t := 22) (by exact rfl) (by exact rfl) (by exact rfl) (et (gS rfl (gS rfl (gS rfl g0))) rfl) rfl (y_load1 one_21 (et g0 rfl) (atS (hJ.cAt (by omega)))) ?_
                  refine p_gstep (j := 5) (t := 22) (by exact rfl) (by exact rfl) (by exact rfl) (et (gS rfl (gS rfl (gS rfl (gS rfl g0)))) rfl) rfl (y_conv Hvaa.underlying21 Hvaa.underlying3 (et g0 rfl) (wrapIN ?_)) ?_
                  omega
                  refine p_gstep (j := 5) (t := 22) (by exact rfl) (by exact rfl) (by exact rfl) (et (gS rfl (gS rfl (gS rfl (gS rfl (gS rfl g0))))) rfl) rfl (y_moveV (et (gS rfl (gS rfl (gS rfl (gS rfl (gS rfl (gS rfl (gS rfl (gS rfl (gS rfl (gS rfl (gS rfl (gS rfl (gS rfl (gS rfl g0)))))))))))))) rfl)) ?_
                  refine p_gstep (j := 5) (t := 22) (by exact rfl) (by exact rfl) (by exact rfl) (et (gS rfl (gS rfl (gS rfl (gS rfl (gS rfl (gS rfl g0)))))) rfl) rfl (y_nil (et g0 rfl)) ?_
                  refine p_gstep (j := 5) (t := 22) (by exact rfl) (by exact rfl) (by exact rfl) (et (gS rfl (gS rfl (gS rfl (gS rfl (gS rfl (gS rfl (gS rfl g0))))))) rfl) rfl (y_fld fld_84_0 (et g0 rfl)) ?_
                  refine p_gstep (j := 5) (t := 22) (by exact rfl) (by exact rfl) (by exact rfl) (et (gS rfl (gS rfl (gS rfl (gS rfl (gS rfl (gS rfl (gS rfl (gS rfl g0)))))))) rfl) rfl (y_load1 one_76 (et g0 rfl) (atS (hT.vl.c1 hAA.sl rfl))) ?_
                  refine p_gstep (j := 5) (t := 22) (by exact rfl) (by exact rfl) (by exact rfl) (et (gS rfl (gS rfl (gS rfl (gS rfl (gS rfl (gS rfl (gS rfl (gS rfl (gS rfl g0))))))))) rfl) rfl (y_len Hvaa.underlying76 (et g0 rfl)) ?_
                  refine p_gstep (j := 5) (t := 22) (by exact rfl) (by exact rfl) (by exact rfl) (et (gS rfl (gS rfl (gS rfl (gS rfl (gS rfl (gS rfl (gS rfl (gS rfl (gS rfl (gS rfl g0)))))))))) rfl) rfl (y_geq (et (gS rfl (gS rfl (gS rfl (gS rfl (gS rfl g0))))) rfl) (et g0 rfl)) ?_
                  refine p_step (by exact rfl) (y_pickF (et (gS rfl (gS rfl (gS rfl (gS rfl (gS rfl (gS rfl (gS rfl (gS rfl (gS rfl (gS rfl (gS rfl g0))))))))))) rfl) (et g0 rfl)) ?_
                  refine p_nil ?_
                  refine hK16 _ _ ?_
                  refine fg3 1 0 34 (gS rfl (gS rfl (gS rfl (gS rfl (gS rfl (gS rfl (gS rfl (gS rfl (gS rfl (gS rfl (gS rfl (gS rfl (gS rfl (gS rfl (gS rfl (gS rfl (gS rfl (gS rfl (gS rfl (gS rfl (gS rfl (gS rfl g0)))))))))))))))))))))) (gS rfl (gS rfl (gS rfl (gS rfl (gS rfl (gS rfl (gS rfl (gS rfl (gS rfl (gS rfl (gS rfl (gS rfl (gS rfl (gS rfl (gS rfl (gS rfl (gS rfl (gS rfl (gS rfl (gS rfl (gS rfl g0))))))))))))))))))))) g0 (fun g => ?_)
                  refine c_false (et g0 rfl) (by (exact decide_eq_false (by omega))) ?_
                  refine c_skip ?_
                  refine hK15 _ _ ?_
                  refine fg2 1 0 (gS rfl (gS rfl g0)) (gS rfl g0) (fun g => ?_)
                  refine c_seq (fun K20 hK20 => ?_)
                  exact (by
                    refine c_draw Up 10 [(0, true), (1, true), (2, true), (3, true), (4, true), (5, true), (6, true), (7, true), (8, true), (9, true)] (by kernel_rfl) (fun w21 hu => ⟨Up.refl _, ?_⟩)
                    replace hT := hT.up hu
                    replace hJ := hJ.up hu
                    replace hAA := hAA.up hu
                    replace U := U.tr hu
                    have SU := Up.refl w21
                    refine p_step (by exact rfl) (y_moveV (et g0 rfl)) ?_
                    refine p_step (by exact rfl) (y_nil (et g0 rfl)) ?_
                    refine p_step (by exact rfl) (y_fld fld_84_0 (et g0 rfl)) ?_
                    refine p_step (by exact rfl) (y_load1 one_76 (et g0 rfl) (atS (hT.vl.c1 hAA.sl rfl))) ?_
                    refine p_step (by exact rfl) (y_moveV (et (gS rfl (gS rfl (gS rfl (gS rfl (gS rfl g0))))) rfl)) ?_
                    refine p_step (by exact rfl) (y_nil (et g0 rfl)) ?_
                    refine p_step (by exact rfl) (y_fld fld_218_1 (et g0 rfl)) ?_
                    refine p_step (by exact rfl) (y_load1 one_21 (et g0 rfl) (atS (hJ.cAt (by omega)))) ?_
                    refine p_step (by exact rfl) (y_idxS Hvaa.underlying76 sz_167 (et (gS rfl (gS rfl (gS rfl (gS rfl g0)))) rfl) (et g0 rfl) ?_ ?_) ?_
                    omega
                    omega
                    refine p_step (by exact rfl) (y_assignV (et g0 rfl)) ?_
                    refine p_nil ?_
                    refine hK20 _ _ ?_
                    refine fg2 1 5 (gS rfl (gS rfl (gS rfl (gS rfl (gS rfl (gS rfl (gS rfl (gS rfl (gS rfl (gS rfl (gS rfl g0))))))))))) g0 (fun g => ?_)
                    refine c_seq (fun K22 hK22 => ?_)
                    exact (by
                      refine c_region ?_
                      refine l_step (y_moveV (et (gS rfl g0) rfl)) ?_
                      refine l_step (y_nil (et g0 rfl)) ?_
                      refine l_step (y_fld fld_218_0 (et g0 rfl)) ?_
                      refine l_step (y_load1 one_5 (et g0 rfl) (at1 (hJ.cKind (by omega)))) ?_
                      refine l_nil ?_
                      refine hK22 _ _ ?_
                      refine fg3 1 5 47 (gS rfl (gS rfl (gS rfl (gS rfl (gS rfl g0))))) (gS rfl (gS rfl (gS rfl (gS rfl g0)))) g0 (fun g => ?_)
                      refine c_block (fun Q23 hQ23 => ?_)
                      refine c_seq (fun K24 hK24 => ?_)
                      exact (by
                        refine c_region ?_
                        refine l_step (y_eql (et g0 rfl) rfl) ?_
                        refine l_step (y_assignV (et g0 rfl)) ?_
                        refine l_nil ?_
                        refine hK24 _ _ ?_
                        refine fg4 1 5 47 48 (gS rfl (gS rfl (gS rfl (gS rfl g0)))) (gS rfl (gS rfl (gS rfl g0))) (gS rfl (gS rfl g0)) g0 (fun g => ?_)
                        refine c_false (et g0 rfl) (by (exact decide_eq_false (by omega))) ?_
                        refine c_seq (fun K26 hK26 => ?_)
                        exact (by
                          refine c_region ?_
                          refine l_step (y_eql (et (gS rfl g0) rfl) rfl) ?_
                          refine l_step (y_assignV (et g0 rfl)) ?_
                          refine l_nil ?_
                          refine hK26 _ _ ?_
                          refine fg4 1 5 47 57 (gS rfl (gS rfl (gS rfl (gS rfl (gS rfl g0))))) (gS rfl (gS rfl (gS rfl (gS rfl g0)))) (gS rfl (gS rfl (gS rfl g0))) g0 (fun g => ?_)
                          refine c_false (et g0 rfl) (by (exact decide_eq_false (by omega))) ?_
                          refine c_seq (fun K28 hK28 => ?_)
                          exact (by
                            refine c_region ?_
                            refine l_step (y_eql (et (gS rfl g0) rfl) rfl) ?_
                            refine l_step (y_assignV (et g0 rfl)) ?_
                            refine l_nil ?_
                            refine hK28 _ _ ?_
                            refine fg4 1 5 47 66 (gS rfl (gS rfl (gS rfl (gS rfl (gS rfl g0))))) (gS rfl (gS rfl (gS rfl (gS rfl g0)))) (gS rfl (gS rfl (gS rfl g0))) g0 (fun g => ?_)
                            refine c_false (et g0 rfl) (by (exact decide_eq_false (by omega))) ?_
                            refine c_seq (fun K30 hK30 => ?_)
                            exact (by
                              refine c_region ?_
                              refine l_step (y_eql (et (gS rfl g0) rfl) rfl) ?_
                              refine l_step (y_assignV (et g0 rfl)) ?_
                              refine l_nil ?_
                              refine hK30 _ _ ?_
                              refine fg4 1 5 47 75 (gS rfl (gS rfl (gS rfl (gS rfl (gS rfl g0))))) (gS rfl (gS rfl (gS rfl (gS rfl g0)))) (gS rfl (gS rfl (gS rfl g0))) g0 (fun g => ?_)
                              refine c_true (et g0 rfl) (by (exact decide_eq_true (by omega))) ?_
                              exact (by
                                refine c_region ?_
                                refine l_step (y_moveV (et (gS rfl (gS rfl g0)) rfl)) ?_
                                refine l_step (y_moveV (et (gS rfl (gS rfl (gS rfl (gS rfl g0)))) rfl)) ?_
                                refine l_step (y_nil (et g0 rfl)) ?_
                                refine l_step (y_fld fld_218_5 (et g0 rfl)) ?_
                                refine l_step (y_load1 one_4 (et g0 rfl) (at1 (hJ.cFlag (by omega)))) ?_
                                refine l_step (y_nil (et (gS rfl (gS rfl (gS rfl (gS rfl g0)))) rfl)) ?_
                                refine l_step (y_fld fld_167_4 (et g0 rfl)) ?_
                                refine l_effN (e_store sz_4 (et g0 rfl) (cellsV (et (gS rfl (gS rfl g0)) rfl) rfl) rfl (by intro v hv; simp at hv; subst hv; rfl) hAA.kA (by have h9 := hfit; omega)) (fun v32 w32 h32 => ?_)
                                obtain ⟨rfl, x32⟩ := h32
                                have hv32 := hT.setA hAA (j := 26) (y := { x9 with warm := e.flag }) (by omega) x32 ea_warm (Nat.le_of_ble_eq_true rfl) hAA.code ⟨hok.addr, hok.nonce, hok.bal, hok.code⟩
                                replace hT := hv32
                                replace U := U.cc x32.ch (by intro b hb; exact .inl trivial)
                                refine l_nil ?_
                                refine hQ23 _ _ _ (in_normal ?_)
                                refine hQ4 _ _ _ (in_normal ?_)
                                refine hK2 _ _ ?_
                                refine fg0 (fun g => ?_)
                                refine c_seq (fun K33 hK33 => ?_)
                                exact (by
                                  refine c_region ?_
                                  refine l_step y_assignC ?_
                                  refine l_nil ?_
                                  refine hK33 _ _ ?_
                                  refine c_ret ?_
                                  repeat with_reducible refine then_ret ?_
                                  refine ret1 rfl (res_tmp (et g0 rfl)) ?_
                                  refine ⟨rfl, col, cs, ?_⟩
                                  rw [u_4 hk, mod_set hx9]
                                  exact hT)))))))))))))))
theorem v_undo9 {w : World} {H : Store} {col : Nat → Nat} {bc : Nat} {cs : Array Value} {V : EV} (hV : VL w H col bc cs V) (ho : VOk V) {i : Nat} {e : EEnt} {bj oj : Nat} {cj : Array Value} {vb : Value} (hJ : JAt w H col V i e bj cj vb) (hoj : oj = i * 9) (hE : EIn V e) (hk : e.kind = 9) :
    Ret 399 [.pointer (some ⟨bc, 2435, none⟩), .pointer (some ⟨bj, oj, none⟩)] w (fun v w' => v = .bool true ∧ ∃ col' cs', VT w H col bc cs w' H col' cs' (undoE V e)) := by
  have hT := VT.refl hV
  have hnw := hV.new
  have hcC := hV.colC
  have hml := ho.bd.marks
  have hpl : e.pl < V.accts.length := hE.a (by omega)
  obtain ⟨x9, hx9⟩ : ∃ x9, V.accts[e.pl]? = some x9 := ⟨_, List.getElem?_eq_getElem hpl⟩
  obtain ⟨ba, ca, cap9, vc9, hAA⟩ := hV.acct hx9
  have hac := hAA.col
  have hjc := hJ.col
  have hfit := hAA.fit
  have hok := hAA.ok
  have hke := hJ.ok
  have hkb := hke.kind
  have hkp := hke.pl
  refine enter (n := 221) Hvaa.func399 rfl rfl (Nat.le_of_ble_eq_true rfl) ?_
  have U : Ch (fun _ => True) w w := Ch.refl _ w
  refine c_seq (fun K1 hK1 => ?_)
  exact (by
    refine c_region ?_
    refine l_step y_assignC ?_
    refine l_nil ?_
    refine hK1 _ _ ?_
    refine fg2 1 0 (gS rfl (gS rfl g0)) (gS rfl g0) (fun g => ?_)
    refine c_seq (fun K2 hK2 => ?_)
    refine c_seq (fun K3 hK3 => ?_)
    exact (by
      refine c_region ?_
      refine l_step (y_moveV (et (gS rfl g0) rfl)) ?_
      refine l_step (y_nil (et g0 rfl)) ?_
      refine l_step (y_fld fld_218_0 (et g0 rfl)) ?_
      refine l_step (y_load1 one_5 (et g0 rfl) (at1 (hJ.cKind (by omega)))) ?_
      refine l_nil ?_
      refine hK3 _ _ ?_
      refine fg3 1 0 9 (gS rfl (gS rfl (gS rfl (gS rfl (gS rfl g0))))) (gS rfl (gS rfl (gS rfl (gS rfl g0)))) g0 (fun g => ?_)
      refine c_block (fun Q4 hQ4 => ?_)
      refine c_seq (fun K5 hK5 => ?_)
      refine c_seq (fun K6 hK6 => ?_)
      exact (by
        refine c_region ?_
        refine l_step (y_eql (et g0 rfl) rfl) ?_
        refine l_step (y_assignV (et g0 rfl)) ?_
        refine l_nil ?_
        refine hK6 _ _ ?_
        refine fg4 1 0 9 10 (gS rfl (gS rfl (gS rfl (gS rfl g0)))) (gS rfl (gS rfl (gS rfl g0))) (gS rfl (gS rfl g0)) g0 (fun g => ?_)
        refine c_false (et g0 rfl) (by (exact decide_eq_false (by omega))) ?_
        refine c_seq (fun K8 hK8 => ?_)
        exact (by
          refine c_region ?_
          refine l_step (y_eql (et (gS rfl g0) rfl) rfl) ?_
          refine l_step (y_assignV (et g0 rfl)) ?_
          refine l_nil ?_
          refine hK8 _ _ ?_
          refine fg4 1 0 9 10 (gS rfl (gS rfl (gS rfl (gS rfl (gS rfl g0))))) (gS rfl (gS rfl (gS rfl (gS rfl g0)))) (gS rfl (gS rfl (gS rfl g0))) g0 (fun g => ?_)
          refine c_false (et g0 rfl) (by (exact decide_eq_false (by omega))) ?_
          refine c_seq (fun K10 hK10 => ?_)
          exact (by
            refine c_region ?_
            refine l_step (y_eql (et (gS rfl g0) rfl) rfl) ?_
            refine l_step (y_assignV (et g0 rfl)) ?_
            refine l_nil ?_
            refine hK10 _ _ ?_
            refine fg4 1 0 9 10 (gS rfl (gS rfl (gS rfl (gS rfl (gS rfl g0))))) (gS rfl (gS rfl (gS rfl (gS rfl g0)))) (gS rfl (gS rfl (gS rfl g0))) g0 (fun g => ?_)
            refine c_false (et g0 rfl) (by (exact decide_eq_false (by omega))) ?_
            refine c_seq (fun K12 hK12 => ?_)
            exact (by
              refine c_region ?_
              refine l_step (y_eql (et (gS rfl g0) rfl) rfl) ?_
              refine l_step (y_assignV (et g0 rfl)) ?_
              refine l_nil ?_
              refine hK12 _ _ ?_
              refine fg4 1 0 9 10 (gS rfl (gS rfl (gS rfl (gS rfl (gS rfl g0))))) (gS rfl (gS rfl (gS rfl (gS rfl g0)))) (gS rfl (gS rfl (gS rfl g0))) g0 (fun g => ?_)
              refine c_false (et g0 rfl) (by (exact decide_eq_false (by omega))) ?_
              refine c_seq (fun K14 hK14 => ?_)
              exact (by
                refine c_region ?_
                refine l_step (y_eql (et (gS rfl g0) rfl) rfl) ?_
                refine l_step (y_assignV (et g0 rfl)) ?_
                refine l_nil ?_
                refine hK14 _ _ ?_
                refine fg4 1 0 9 10 (gS rfl (gS rfl (gS rfl (gS rfl (gS rfl g0))))) (gS rfl (gS rfl (gS rfl (gS rfl g0)))) (gS rfl (gS rfl (gS rfl g0))) g0 (fun g => ?_)
                refine c_true (et g0 rfl) (by (exact decide_eq_true (by omega))) ?_
                refine c_skip ?_
                refine hK5 _ _ ?_
                refine c_true (et g0 rfl) (by (first | rfl | exact decide_eq_true (by omega))) ?_
                refine c_seq (fun K17 hK17 => ?_)
                refine c_seq (fun K18 hK18 => ?_)
                exact (by
                  refine c_draw Up 18 [(0, true), (1, true), (2, true), (3, true), (4, true), (5, true), (6, true), (7, true), (8, true), (9, true), (10, true), (11, true), (12, true), (13, true), (14, true), (15, true), (16, true), (17, true)] (by kernel_rfl) (fun w19 hu => ⟨Up.refl _, ?_⟩)
                  replace hT := hT.up hu
                  replace hJ := hJ.up hu
                  replace hAA := hAA.up hu
                  replace U := U.tr hu
                  have SU := Up.refl w19
                  refine p_step (by exact rfl) (y_moveV (et (gS rfl (gS rfl (gS rfl g0))) rfl)) ?_
                  refine p_step (by exact rfl) (y_nil (et g0 rfl)) ?_
                  refine p_step (by exact rfl) (y_fld fld_218_1 (et g0 rfl)) ?_
                  refine p_step (by exact rfl) (y_load1 one_21 (et g0 rfl) (atS (hJ.cAt (by omega)))) ?_
                  refine p_step (by exact rfl) (y_lss (et g0 rfl) rfl) ?_
                  refine p_step (by exact rfl) (y_moveV (et g0 rfl)) ?_
                  refine gsplitP (i := 22) g0 (fun q20 => ?_) (fun q20 => ?_)
                  · skip
                    exact absurd (of_decide_eq_true q20) (by omega)
                  · skip
                    refine p_gstep (j := 5) (t := 22) (by exact rfl) (by exact rfl) (by exact rfl) (et g0 rfl) rfl (y_moveV (et (gS rfl (gS rfl (gS rfl (gS rfl (gS rfl (gS rfl (gS rfl (gS rfl (gS rfl (gS rfl g0)))))))))) rfl)) ?_
                    refine p_gstep (j := 5) (t := 22) (by exact rfl) (by exact rfl) (by exact rfl) (et (gS rfl g0) rfl) rfl (y_nil (et g0 rfl)) ?_
                    refine p_gstep (j := 5) (t := 22) (by exact rfl) (by exact rfl) (by exact rfl) (et (gS rfl (gS rfl g0)) rfl) rfl (y_fld fld_218_1 (et g0 rfl)) ?_
                    refine p_gstep (j := 5) (t := 22) (by exact rfl) (by exact rfl) (by exact rfl) (et (gS rfl (gS rfl (gS rfl g0))) rfl) rfl (y_load1 one_21 (et g0 rfl) (atS (hJ.cAt (by omega)))) ?_
                    refine p_gstep (j := 5) (t := 22) (by exact rfl) (by exact rfl) (by exact rfl) (et (gS rfl (gS rfl (gS rfl (gS rfl g0)))) rfl) rfl (y_conv Hvaa.underlying21 Hvaa.underlying3 (et g0 rfl) (wrapIN ?_)) ?_
                    omega
                    refine p_gstep (j := 5) (t := 22) (by exact rfl) (by exact rfl) (by exact rfl) (et (gS rfl (gS rfl (gS rfl (gS rfl (gS rfl g0))))) rfl) rfl (y_moveV (et (gS rfl (gS rfl (gS rfl (gS rfl (gS rfl (gS rfl (gS rfl (gS rfl (gS rfl (gS rfl (gS rfl (gS rfl (gS rfl (gS rfl g0)))))))))))))) rfl)) ?_
                    refine p_gstep (j := 5) (t := 22) (by exact rfl) (by exact rfl) (by exact rfl) (et (gS rfl (gS rfl (gS rfl (gS rfl (gS rfl (gS rfl g0)))))) rfl) rfl (y_nil (et g0 rfl)) ?_
                    refine p_gstep (j := 5) (t := 22) (by exact rfl) (by exact rfl) (by exact rfl) (et (gS rfl (gS rfl (gS rfl (gS rfl (gS rfl (gS rfl (gS rfl g0))))))) rfl) rfl (y_fld fld_84_0 (et g0 rfl)) ?_
                    refine p_gstep (j := 5) (t := 22) (by exact rfl) (by exact rfl) (by exact rfl) (et (gS rfl (gS rfl (gS rfl (gS rfl (gS rfl (gS rfl (gS rfl (gS rfl g0)))))))) rfl) rfl (y_load1 one_76 (et g0 rfl) (atS (hT.vl.c1 hAA.sl rfl))) ?_
                    refine p_gstep (j := 5) (t := 22) (by exact rfl) (by exact rfl) (by exact rfl) (et (gS rfl (gS rfl (gS rfl (gS rfl (gS rfl (gS rfl (gS rfl (gS rfl (gS rfl g0))))))))) rfl) rfl (y_len Hvaa.underlying76 (et g0 rfl)) ?_
                    refine p_gstep (j := 5) (t := 22) (by exact rfl) (by exact rfl) (by exact rfl) (et (gS rfl (gS rfl (gS rfl (gS rfl (gS rfl (gS rfl (gS rfl (gS rfl (gS rfl (gS rfl g0)))))))))) rfl) rfl (y_geq (et (gS rfl (gS rfl (gS rfl (gS rfl (gS rfl g0))))) rfl) (et g0 rfl)) ?_
                    refine p_step (by exact rfl) (y_pickF (et (gS rfl (gS rfl (gS rfl (gS rfl (gS rfl (gS rfl (gS rfl (gS rfl (gS rfl (gS rfl (gS rfl g0))))))))))) rfl) (et g0 rfl)) ?_
                    refine p_nil ?_
                    refine hK18 _ _ ?_
                    refine fg3 1 0 34 (gS rfl (gS rfl (gS rfl (gS rfl (gS rfl (gS rfl (gS rfl (gS rfl (gS rfl (gS rfl (gS rfl (gS rfl (gS rfl (gS rfl (gS rfl (gS rfl (gS rfl (gS rfl (gS rfl (gS rfl (gS rfl (gS rfl g0)))))))))))))))))))))) (gS rfl (gS rfl (gS rfl (gS rfl (gS rfl (gS rfl (gS rfl (gS rfl (gS rfl (gS rfl (gS rfl (gS rfl (gS rfl (gS rfl (gS rfl (gS rfl (gS rfl (gS rfl (gS rfl (gS rfl (gS rfl g0))))))))))))))))))))) g0 (fun g => ?_)
                    refine c_false (et g0 rfl) (by (exact decide_eq_false (by omega))) ?_
                    refine c_skip ?_
                    refine hK17 _ _ ?_
                    refine fg2 1 0 (gS rfl (gS rfl g0)) (gS rfl g0) (fun g => ?_)
                    refine c_seq (fun K22 hK22 => ?_)
                    exact (by
                      refine c_draw Up 10 [(0, true), (1, true), (2, true), (3, true), (4, true), (5, true), (6, true), (7, true), (8, true), (9, true)] (by kernel_rfl) (fun w23 hu => ⟨Up.refl _, ?_⟩)
                      replace hT := hT.up hu
                      replace hJ := hJ.up hu
                      replace hAA := hAA.up hu
                      replace U := U.tr hu
                      have SU := Up.refl w23
                      refine p_step (by exact rfl) (y_moveV (et g0 rfl)) ?_
                      refine p_step (by exact rfl) (y_nil (et g0 rfl)) ?_
                      refine p_step (by exact rfl) (y_fld fld_84_0 (et g0 rfl)) ?_
                      refine p_step (by exact rfl) (y_load1 one_76 (et g0 rfl) (atS (hT.vl.c1 hAA.sl rfl))) ?_
                      refine p_step (by exact rfl) (y_moveV (et (gS rfl (gS rfl (gS rfl (gS rfl (gS rfl g0))))) rfl)) ?_
                      refine p_step (by exact rfl) (y_nil (et g0 rfl)) ?_
                      refine p_step (by exact rfl) (y_fld fld_218_1 (et g0 rfl)) ?_
                      refine p_step (by exact rfl) (y_load1 one_21 (et g0 rfl) (atS (hJ.cAt (by omega)))) ?_
                      refine p_step (by exact rfl) (y_idxS Hvaa.underlying76 sz_167 (et (gS rfl (gS rfl (gS rfl (gS rfl g0)))) rfl) (et g0 rfl) ?_ ?_) ?_
                      omega
                      omega
                      refine p_step (by exact rfl) (y_assignV (et g0 rfl)) ?_
                      refine p_nil ?_
                      refine hK22 _ _ ?_
                      refine fg2 1 5 (gS rfl (gS rfl (gS rfl (gS rfl (gS rfl (gS rfl (gS rfl (gS rfl (gS rfl (gS rfl (gS rfl g0))))))))))) g0 (fun g => ?_)
                      refine c_seq (fun K24 hK24 => ?_)
                      exact (by
                        refine c_region ?_
                        refine l_step (y_moveV (et (gS rfl g0) rfl)) ?_
                        refine l_step (y_nil (et g0 rfl)) ?_
                        refine l_step (y_fld fld_218_0 (et g0 rfl)) ?_
                        refine l_step (y_load1 one_5 (et g0 rfl) (at1 (hJ.cKind (by omega)))) ?_
                        refine l_nil ?_
                        refine hK24 _ _ ?_
                        refine fg3 1 5 47 (gS rfl (gS rfl (gS rfl (gS rfl (gS rfl g0))))) (gS rfl (gS rfl (gS rfl (gS rfl g0)))) g0 (fun g => ?_)
                        refine c_block (fun Q25 hQ25 => ?_)
                        refine c_seq (fun K26 hK26 => ?_)
                        exact (by
                          refine c_region ?_
                          refine l_step (y_eql (et g0 rfl) rfl) ?_
                          refine l_step (y_assignV (et g0 rfl)) ?_
                          refine l_nil ?_
                          refine hK26 _ _ ?_
                          refine fg4 1 5 47 48 (gS rfl (gS rfl (gS rfl (gS rfl g0)))) (gS rfl (gS rfl (gS rfl g0))) (gS rfl (gS rfl g0)) g0 (fun g => ?_)
                          refine c_false (et g0 rfl) (by (exact decide_eq_false (by omega))) ?_
                          refine c_seq (fun K28 hK28 => ?_)
                          exact (by
                            refine c_region ?_
                            refine l_step (y_eql (et (gS rfl g0) rfl) rfl) ?_
                            refine l_step (y_assignV (et g0 rfl)) ?_
                            refine l_nil ?_
                            refine hK28 _ _ ?_
                            refine fg4 1 5 47 57 (gS rfl (gS rfl (gS rfl (gS rfl (gS rfl g0))))) (gS rfl (gS rfl (gS rfl (gS rfl g0)))) (gS rfl (gS rfl (gS rfl g0))) g0 (fun g => ?_)
                            refine c_false (et g0 rfl) (by (exact decide_eq_false (by omega))) ?_
                            refine c_seq (fun K30 hK30 => ?_)
                            exact (by
                              refine c_region ?_
                              refine l_step (y_eql (et (gS rfl g0) rfl) rfl) ?_
                              refine l_step (y_assignV (et g0 rfl)) ?_
                              refine l_nil ?_
                              refine hK30 _ _ ?_
                              refine fg4 1 5 47 66 (gS rfl (gS rfl (gS rfl (gS rfl (gS rfl g0))))) (gS rfl (gS rfl (gS rfl (gS rfl g0)))) (gS rfl (gS rfl (gS rfl g0))) g0 (fun g => ?_)
                              refine c_false (et g0 rfl) (by (exact decide_eq_false (by omega))) ?_
                              refine c_seq (fun K32 hK32 => ?_)
                              exact (by
                                refine c_region ?_
                                refine l_step (y_eql (et (gS rfl g0) rfl) rfl) ?_
                                refine l_step (y_assignV (et g0 rfl)) ?_
                                refine l_nil ?_
                                refine hK32 _ _ ?_
                                refine fg4 1 5 47 75 (gS rfl (gS rfl (gS rfl (gS rfl (gS rfl g0))))) (gS rfl (gS rfl (gS rfl (gS rfl g0)))) (gS rfl (gS rfl (gS rfl g0))) g0 (fun g => ?_)
                                refine c_false (et g0 rfl) (by (exact decide_eq_false (by omega))) ?_
                                refine c_seq (fun K34 hK34 => ?_)
                                exact (by
                                  refine c_region ?_
                                  refine l_step (y_eql (et (gS rfl g0) rfl) rfl) ?_
                                  refine l_step (y_assignV (et g0 rfl)) ?_
                                  refine l_nil ?_
                                  refine hK34 _ _ ?_
                                  refine fg4 1 5 47 84 (gS rfl (gS rfl (gS rfl (gS rfl (gS rfl g0))))) (gS rfl (gS rfl (gS rfl (gS rfl g0)))) (gS rfl (gS rfl (gS rfl g0))) g0 (fun g => ?_)
                                  refine c_true (et g0 rfl) (by (exact decide_eq_true (by omega))) ?_
                                  exact (by
                                    refine c_region ?_
                                    refine l_step (y_moveV (et (gS rfl (gS rfl g0)) rfl)) ?_
                                    refine l_step (y_moveV (et (gS rfl (gS rfl (gS rfl (gS rfl g0)))) rfl)) ?_
                                    refine l_step (y_nil (et g0 rfl)) ?_
                                    refine l_step (y_fld fld_218_5 (et g0 rfl)) ?_
                                    refine l_step (y_load1 one_4 (et g0 rfl) (at1 (hJ.cFlag (by omega)))) ?_
                                    refine l_step (y_nil (et (gS rfl (gS rfl (gS rfl (gS rfl g0)))) rfl)) ?_
                                    refine l_step (y_fld fld_167_5 (et g0 rfl)) ?_
                                    refine l_effN (e_store sz_4 (et g0 rfl) (cellsV (et (gS rfl (gS rfl g0)) rfl) rfl) rfl (by intro v hv; simp at hv; subst hv; rfl) hAA.kA (by have h9 := hfit; omega)) (fun v36 w36 h36 => ?_)
                                    obtain ⟨rfl, x36⟩ := h36
                                    have hv36 := hT.setA hAA (j := 27) (y := { x9 with made := e.flag }) (by omega) x36 ea_made (Nat.le_of_ble_eq_true rfl) hAA.code ⟨hok.addr, hok.nonce, hok.bal, hok.code⟩
                                    replace hT := hv36
                                    replace U := U.cc x36.ch (by intro b hb; exact .inl trivial)
                                    refine l_nil ?_
                                    refine hQ25 _ _ _ (in_normal ?_)
                                    refine hQ4 _ _ _ (in_normal ?_)
                                    refine hK2 _ _ ?_
                                    refine fg0 (fun g => ?_)
                                    refine c_seq (fun K37 hK37 => ?_)
                                    exact (by
                                      refine c_region ?_
                                      refine l_step y_assignC ?_
                                      refine l_nil ?_
                                      refine hK37 _ _ ?_
                                      refine c_ret ?_
                                      repeat with_reducible refine then_ret ?_
                                      refine ret1 rfl (res_tmp (et g0 rfl)) ?_
                                      refine ⟨rfl, col, cs, ?_⟩
                                      rw [u_9 hk, mod_set hx9]
                                      exact hT)))))))))))))))))
theorem v_undo10 {w : World} {H : Store} {col : Nat → Nat} {bc : Nat} {cs : Array Value} {V : EV} (hV : VL w H col bc cs V) (ho : VOk V) {i : Nat} {e : EEnt} {bj oj : Nat} {cj : Array Value} {vb : Value} (hJ : JAt w H col V i e bj cj vb) (hoj : oj = i * 9) (hE : EIn V e) (hk : e.kind = 10) :
    Ret 399 [.pointer (some ⟨bc, 2435, none⟩), .pointer (some ⟨bj, oj, none⟩)] w (fun v w' => v = .bool true ∧ ∃ col' cs', VT w H col bc cs w' H col' cs' (undoE V e)) := by
  have hT := VT.refl hV
  have hnw := hV.new
  have hcC := hV.colC
  have hml := ho.bd.marks
  have hpl : e.pl < V.accts.length := hE.a (by omega)
  obtain ⟨x9, hx9⟩ : ∃ x9, V.accts[e.pl]? = some x9 := ⟨_, List.getElem?_eq_getElem hpl⟩
  obtain ⟨ba, ca, cap9, vc9, hAA⟩ := hV.acct hx9
  have hac := hAA.col
  have hjc := hJ.col
  have hfit := hAA.fit
  have hok := hAA.ok
  have hke := hJ.ok
  have hkb := hke.kind
  have hkp := hke.pl
  refine enter (n := 221) Hvaa.func399 rfl rfl (Nat.le_of_ble_eq_true rfl) ?_
  have U : Ch (fun _ => True) w w := Ch.refl _ w
  refine c_seq (fun K1 hK1 => ?_)
  exact (by
    refine c_region ?_
    refine l_step y_assignC ?_
    refine l_nil ?_
    refine hK1 _ _ ?_
    refine fg2 1 0 (gS rfl (gS rfl g0)) (gS rfl g0) (fun g => ?_)
    refine c_seq (fun K2 hK2 => ?_)
    refine c_seq (fun K3 hK3 => ?_)
    exact (by
      refine c_region ?_
      refine l_step (y_moveV (et (gS rfl g0) rfl)) ?_
      refine l_step (y_nil (et g0 rfl)) ?_
      refine l_step (y_fld fld_218_0 (et g0 rfl)) ?_
      refine l_step (y_load1 one_5 (et g0 rfl) (at1 (hJ.cKind (by omega)))) ?_
      refine l_nil ?_
      refine hK3 _ _ ?_
      refine fg3 1 0 9 (gS rfl (gS rfl (gS rfl (gS rfl (gS rfl g0))))) (gS rfl (gS rfl (gS rfl (gS rfl g0)))) g0 (fun g => ?_)
      refine c_block (fun Q4 hQ4 => ?_)
      refine c_seq (fun K5 hK5 => ?_)
      refine c_seq (fun K6 hK6 => ?_)
      exact (by
        refine c_region ?_
        refine l_step (y_eql (et g0 rfl) rfl) ?_
        refine l_step (y_assignV (et g0 rfl)) ?_
        refine l_nil ?_
        refine hK6 _ _ ?_
        refine fg4 1 0 9 10 (gS rfl (gS rfl (gS rfl (gS rfl g0)))) (gS rfl (gS rfl (gS rfl g0))) (gS rfl (gS rfl g0)) g0 (fun g => ?_)
        refine c_false (et g0 rfl) (by (exact decide_eq_false (by omega))) ?_
        refine c_seq (fun K8 hK8 => ?_)
        exact (by
          refine c_region ?_
          refine l_step (y_eql (et (gS rfl g0) rfl) rfl) ?_
          refine l_step (y_assignV (et g0 rfl)) ?_
          refine l_nil ?_
          refine hK8 _ _ ?_
          refine fg4 1 0 9 10 (gS rfl (gS rfl (gS rfl (gS rfl (gS rfl g0))))) (gS rfl (gS rfl (gS rfl (gS rfl g0)))) (gS rfl (gS rfl (gS rfl g0))) g0 (fun g => ?_)
          refine c_false (et g0 rfl) (by (exact decide_eq_false (by omega))) ?_
          refine c_seq (fun K10 hK10 => ?_)
          exact (by
            refine c_region ?_
            refine l_step (y_eql (et (gS rfl g0) rfl) rfl) ?_
            refine l_step (y_assignV (et g0 rfl)) ?_
            refine l_nil ?_
            refine hK10 _ _ ?_
            refine fg4 1 0 9 10 (gS rfl (gS rfl (gS rfl (gS rfl (gS rfl g0))))) (gS rfl (gS rfl (gS rfl (gS rfl g0)))) (gS rfl (gS rfl (gS rfl g0))) g0 (fun g => ?_)
            refine c_false (et g0 rfl) (by (exact decide_eq_false (by omega))) ?_
            refine c_seq (fun K12 hK12 => ?_)
            exact (by
              refine c_region ?_
              refine l_step (y_eql (et (gS rfl g0) rfl) rfl) ?_
              refine l_step (y_assignV (et g0 rfl)) ?_
              refine l_nil ?_
              refine hK12 _ _ ?_
              refine fg4 1 0 9 10 (gS rfl (gS rfl (gS rfl (gS rfl (gS rfl g0))))) (gS rfl (gS rfl (gS rfl (gS rfl g0)))) (gS rfl (gS rfl (gS rfl g0))) g0 (fun g => ?_)
              refine c_false (et g0 rfl) (by (exact decide_eq_false (by omega))) ?_
              refine c_seq (fun K14 hK14 => ?_)
              exact (by
                refine c_region ?_
                refine l_step (y_eql (et (gS rfl g0) rfl) rfl) ?_
                refine l_step (y_assignV (et g0 rfl)) ?_
                refine l_nil ?_
                refine hK14 _ _ ?_
                refine fg4 1 0 9 10 (gS rfl (gS rfl (gS rfl (gS rfl (gS rfl g0))))) (gS rfl (gS rfl (gS rfl (gS rfl g0)))) (gS rfl (gS rfl (gS rfl g0))) g0 (fun g => ?_)
                refine c_false (et g0 rfl) (by (exact decide_eq_false (by omega))) ?_
                exact (by
                  refine c_region ?_
                  refine l_step (y_eql (et (gS rfl g0) rfl) rfl) ?_
                  refine l_step (y_assignV (et g0 rfl)) ?_
                  refine l_nil ?_
                  refine hK5 _ _ ?_
                  refine fg4 1 0 9 10 (gS rfl (gS rfl (gS rfl (gS rfl (gS rfl g0))))) (gS rfl (gS rfl (gS rfl (gS rfl g0)))) (gS rfl (gS rfl (gS rfl g0))) g0 (fun g => ?_)
                  refine c_true (et g0 rfl) (by (first | rfl | exact decide_eq_true (by omega))) ?_
                  refine c_seq (fun K17 hK17 => ?_)
                  refine c_seq (fun K18 hK18 => ?_)
                  exact (by
                    refine c_draw Up 18 [(0, true), (1, true), (2, true), (3, true), (4, true), (5, true), (6, true), (7, true), (8, true), (9, true), (10, true), (11, true), (12, true), (13, true), (14, true), (15, true), (16, true), (17, true)] (by kernel_rfl) (fun w19 hu => ⟨Up.refl _, ?_⟩)
                    replace hT := hT.up hu
                    replace hJ := hJ.up hu
                    replace hAA := hAA.up hu
                    replace U := U.tr hu
                    have SU := Up.refl w19
                    refine p_step (by exact rfl) (y_moveV (et (gS rfl (gS rfl (gS rfl g0))) rfl)) ?_
                    refine p_step (by exact rfl) (y_nil (et g0 rfl)) ?_
                    refine p_step (by exact rfl) (y_fld fld_218_1 (et g0 rfl)) ?_
                    refine p_step (by exact rfl) (y_load1 one_21 (et g0 rfl) (atS (hJ.cAt (by omega)))) ?_
                    refine p_step (by exact rfl) (y_lss (et g0 rfl) rfl) ?_
                    refine p_step (by exact rfl) (y_moveV (et g0 rfl)) ?_
                    refine gsplitP (i := 22) g0 (fun q20 => ?_) (fun q20 => ?_)
                    · skip
                      exact absurd (of_decide_eq_true q20) (by omega)
                    · skip
                      refine p_gstep (j := 5) (t := 22) (by exact rfl) (by exact rfl) (by exact rfl) (et g0 rfl) rfl (y_moveV (et (gS rfl (gS rfl (gS rfl (gS rfl (gS rfl (gS rfl (gS rfl (gS rfl (gS rfl (gS rfl g0)))))))))) rfl)) ?_
                      refine p_gstep (j := 5) (t := 22) (by exact rfl) (by exact rfl) (by exact rfl) (et (gS rfl g0) rfl) rfl (y_nil (et g0 rfl)) ?_
                      refine p_gstep (j := 5) (t := 22) (by exact rfl) (by exact rfl) (by exact rfl) (et (gS rfl (gS rfl g0)) rfl) rfl (y_fld fld_218_1 (et g0 rfl)) ?_
                      refine p_gstep (j := 5) (t := 22) (by exact rfl) (by exact rfl) (by exact rfl) (et (gS rfl (gS rfl (gS rfl g0))) rfl) rfl (y_load1 one_21 (et g0 rfl) (atS (hJ.cAt (by omega)))) ?_
                      refine p_gstep (j := 5) (t := 22) (by exact rfl) (by exact rfl) (by exact rfl) (et (gS rfl (gS rfl (gS rfl (gS rfl g0)))) rfl) rfl (y_conv Hvaa.underlying21 Hvaa.underlying3 (et g0 rfl) (wrapIN ?_)) ?_
                      omega
                      refine p_gstep (j := 5) (t := 22) (by exact rfl) (by exact rfl) (by exact rfl) (et (gS rfl (gS rfl (gS rfl (gS rfl (gS rfl g0))))) rfl) rfl (y_moveV (et (gS rfl (gS rfl (gS rfl (gS rfl (gS rfl (gS rfl (gS rfl (gS rfl (gS rfl (gS rfl (gS rfl (gS rfl (gS rfl (gS rfl g0)))))))))))))) rfl)) ?_
                      refine p_gstep (j := 5) (t := 22) (by exact rfl) (by exact rfl) (by exact rfl) (et (gS rfl (gS rfl (gS rfl (gS rfl (gS rfl (gS rfl g0)))))) rfl) rfl (y_nil (et g0 rfl)) ?_
                      refine p_gstep (j := 5) (t := 22) (by exact rfl) (by exact rfl) (by exact rfl) (et (gS rfl (gS rfl (gS rfl (gS rfl (gS rfl (gS rfl (gS rfl g0))))))) rfl) rfl (y_fld fld_84_0 (et g0 rfl)) ?_
                      refine p_gstep (j := 5) (t := 22) (by exact rfl) (by exact rfl) (by exact rfl) (et (gS rfl (gS rfl (gS rfl (gS rfl (gS rfl (gS rfl (gS rfl (gS rfl g0)))))))) rfl) rfl (y_load1 one_76 (et g0 rfl) (atS (hT.vl.c1 hAA.sl rfl))) ?_
                      refine p_gstep (j := 5) (t := 22) (by exact rfl) (by exact rfl) (by exact rfl) (et (gS rfl (gS rfl (gS rfl (gS rfl (gS rfl (gS rfl (gS rfl (gS rfl (gS rfl g0))))))))) rfl) rfl (y_len Hvaa.underlying76 (et g0 rfl)) ?_
                      refine p_gstep (j := 5) (t := 22) (by exact rfl) (by exact rfl) (by exact rfl) (et (gS rfl (gS rfl (gS rfl (gS rfl (gS rfl (gS rfl (gS rfl (gS rfl (gS rfl (gS rfl g0)))))))))) rfl) rfl (y_geq (et (gS rfl (gS rfl (gS rfl (gS rfl (gS rfl g0))))) rfl) (et g0 rfl)) ?_
                      refine p_step (by exact rfl) (y_pickF (et (gS rfl (gS rfl (gS rfl (gS rfl (gS rfl (gS rfl (gS rfl (gS rfl (gS rfl (gS rfl (gS rfl g0))))))))))) rfl) (et g0 rfl)) ?_
                      refine p_nil ?_
                      refine hK18 _ _ ?_
                      refine fg3 1 0 34 (gS rfl (gS rfl (gS rfl (gS rfl (gS rfl (gS rfl (gS rfl (gS rfl (gS rfl (gS rfl (gS rfl (gS rfl (gS rfl (gS rfl (gS rfl (gS rfl (gS rfl (gS rfl (gS rfl (gS rfl (gS rfl (gS rfl g0)))))))))))))))))))))) (gS rfl (gS rfl (gS rfl (gS rfl (gS rfl (gS rfl (gS rfl (gS rfl (gS rfl (gS rfl (gS rfl (gS rfl (gS rfl (gS rfl (gS rfl (gS rfl (gS rfl (gS rfl (gS rfl (gS rfl (gS rfl g0))))))))))))))))))))) g0 (fun g => ?_)
                      refine c_false (et g0 rfl) (by (exact decide_eq_false (by omega))) ?_
                      refine c_skip ?_
                      refine hK17 _ _ ?_
                      refine fg2 1 0 (gS rfl (gS rfl g0)) (gS rfl g0) (fun g => ?_)
                      refine c_seq (fun K22 hK22 => ?_)
                      exact (by
                        refine c_draw Up 10 [(0, true), (1, true), (2, true), (3, true), (4, true), (5, true), (6, true), (7, true), (8, true), (9, true)] (by kernel_rfl) (fun w23 hu => ⟨Up.refl _, ?_⟩)
                        replace hT := hT.up hu
                        replace hJ := hJ.up hu
                        replace hAA := hAA.up hu
                        replace U := U.tr hu
                        have SU := Up.refl w23
                        refine p_step (by exact rfl) (y_moveV (et g0 rfl)) ?_
                        refine p_step (by exact rfl) (y_nil (et g0 rfl)) ?_
                        refine p_step (by exact rfl) (y_fld fld_84_0 (et g0 rfl)) ?_
                        refine p_step (by exact rfl) (y_load1 one_76 (et g0 rfl) (atS (hT.vl.c1 hAA.sl rfl))) ?_
                        refine p_step (by exact rfl) (y_moveV (et (gS rfl (gS rfl (gS rfl (gS rfl (gS rfl g0))))) rfl)) ?_
                        refine p_step (by exact rfl) (y_nil (et g0 rfl)) ?_
                        refine p_step (by exact rfl) (y_fld fld_218_1 (et g0 rfl)) ?_
                        refine p_step (by exact rfl) (y_load1 one_21 (et g0 rfl) (atS (hJ.cAt (by omega)))) ?_
                        refine p_step (by exact rfl) (y_idxS Hvaa.underlying76 sz_167 (et (gS rfl (gS rfl (gS rfl (gS rfl g0)))) rfl) (et g0 rfl) ?_ ?_) ?_
                        omega
                        omega
                        refine p_step (by exact rfl) (y_assignV (et g0 rfl)) ?_
                        refine p_nil ?_
                        refine hK22 _ _ ?_
                        refine fg2 1 5 (gS rfl (gS rfl (gS rfl (gS rfl (gS rfl (gS rfl (gS rfl (gS rfl (gS rfl (gS rfl (gS rfl g0))))))))))) g0 (fun g => ?_)
                        refine c_seq (fun K24 hK24 => ?_)
                        exact (by
                          refine c_region ?_
                          refine l_step (y_moveV (et (gS rfl g0) rfl)) ?_
                          refine l_step (y_nil (et g0 rfl)) ?_
                          refine l_step (y_fld fld_218_0 (et g0 rfl)) ?_
                          refine l_step (y_load1 one_5 (et g0 rfl) (at1 (hJ.cKind (by omega)))) ?_
                          refine l_nil ?_
                          refine hK24 _ _ ?_
                          refine fg3 1 5 47 (gS rfl (gS rfl (gS rfl (gS rfl (gS rfl g0))))) (gS rfl (gS rfl (gS rfl (gS rfl g0)))) g0 (fun g => ?_)
                          refine c_block (fun Q25 hQ25 => ?_)
                          refine c_seq (fun K26 hK26 => ?_)
                          exact (by
                            refine c_region ?_
                            refine l_step (y_eql (et g0 rfl) rfl) ?_
                            refine l_step (y_assignV (et g0 rfl)) ?_
                            refine l_nil ?_
                            refine hK26 _ _ ?_
                            refine fg4 1 5 47 48 (gS rfl (gS rfl (gS rfl (gS rfl g0)))) (gS rfl (gS rfl (gS rfl g0))) (gS rfl (gS rfl g0)) g0 (fun g => ?_)
                            refine c_false (et g0 rfl) (by (exact decide_eq_false (by omega))) ?_
                            refine c_seq (fun K28 hK28 => ?_)
                            exact (by
                              refine c_region ?_
                              refine l_step (y_eql (et (gS rfl g0) rfl) rfl) ?_
                              refine l_step (y_assignV (et g0 rfl)) ?_
                              refine l_nil ?_
                              refine hK28 _ _ ?_
                              refine fg4 1 5 47 57 (gS rfl (gS rfl (gS rfl (gS rfl (gS rfl g0))))) (gS rfl (gS rfl (gS rfl (gS rfl g0)))) (gS rfl (gS rfl (gS rfl g0))) g0 (fun g => ?_)
                              refine c_false (et g0 rfl) (by (exact decide_eq_false (by omega))) ?_
                              refine c_seq (fun K30 hK30 => ?_)
                              exact (by
                                refine c_region ?_
                                refine l_step (y_eql (et (gS rfl g0) rfl) rfl) ?_
                                refine l_step (y_assignV (et g0 rfl)) ?_
                                refine l_nil ?_
                                refine hK30 _ _ ?_
                                refine fg4 1 5 47 66 (gS rfl (gS rfl (gS rfl (gS rfl (gS rfl g0))))) (gS rfl (gS rfl (gS rfl (gS rfl g0)))) (gS rfl (gS rfl (gS rfl g0))) g0 (fun g => ?_)
                                refine c_false (et g0 rfl) (by (exact decide_eq_false (by omega))) ?_
                                refine c_seq (fun K32 hK32 => ?_)
                                exact (by
                                  refine c_region ?_
                                  refine l_step (y_eql (et (gS rfl g0) rfl) rfl) ?_
                                  refine l_step (y_assignV (et g0 rfl)) ?_
                                  refine l_nil ?_
                                  refine hK32 _ _ ?_
                                  refine fg4 1 5 47 75 (gS rfl (gS rfl (gS rfl (gS rfl (gS rfl g0))))) (gS rfl (gS rfl (gS rfl (gS rfl g0)))) (gS rfl (gS rfl (gS rfl g0))) g0 (fun g => ?_)
                                  refine c_false (et g0 rfl) (by (exact decide_eq_false (by omega))) ?_
                                  refine c_seq (fun K34 hK34 => ?_)
                                  exact (by
                                    refine c_region ?_
                                    refine l_step (y_eql (et (gS rfl g0) rfl) rfl) ?_
                                    refine l_step (y_assignV (et g0 rfl)) ?_
                                    refine l_nil ?_
                                    refine hK34 _ _ ?_
                                    refine fg4 1 5 47 84 (gS rfl (gS rfl (gS rfl (gS rfl (gS rfl g0))))) (gS rfl (gS rfl (gS rfl (gS rfl g0)))) (gS rfl (gS rfl (gS rfl g0))) g0 (fun g => ?_)
                                    refine c_false (et g0 rfl) (by (exact decide_eq_false (by omega))) ?_
                                    refine c_seq (fun K36 hK36 => ?_)
                                    exact (by
                                      refine c_region ?_
                                      refine l_step (y_eql (et (gS rfl g0) rfl) rfl) ?_
                                      refine l_step (y_assignV (et g0 rfl)) ?_
                                      refine l_nil ?_
                                      refine hK36 _ _ ?_
                                      refine fg3 1 5 93 (gS rfl (gS rfl (gS rfl (gS rfl (gS rfl g0))))) (gS rfl (gS rfl (gS rfl (gS rfl g0)))) g0 (fun g => ?_)
                                      refine c_true (et g0 rfl) (by (exact decide_eq_true (by omega))) ?_
                                      exact (by
                                        refine c_region ?_
                                        refine l_step (y_moveV (et (gS rfl g0) rfl)) ?_
                                        refine l_step (y_moveV (et (gS rfl (gS rfl (gS rfl g0))) rfl)) ?_
                                        refine l_step (y_nil (et g0 rfl)) ?_
                                        refine l_step (y_fld fld_218_5 (et g0 rfl)) ?_
                                        refine l_step (y_load1 one_4 (et g0 rfl) (at1 (hJ.cFlag (by omega)))) ?_
                                        refine l_step (y_nil (et (gS rfl (gS rfl (gS rfl (gS rfl g0)))) rfl)) ?_
                                        refine l_step (y_fld fld_167_6 (et g0 rfl)) ?_
                                        refine l_effN (e_store sz_4 (et g0 rfl) (cellsV (et (gS rfl (gS rfl g0)) rfl) rfl) rfl (by intro v hv; simp at hv; subst hv; rfl) hAA.kA (by have h9 := hfit; omega)) (fun v38 w38 h38 => ?_)
                                        obtain ⟨rfl, x38⟩ := h38
                                        have hv38 := hT.setA hAA (j := 28) (y := { x9 with gone := e.flag }) (by omega) x38 ea_gone (Nat.le_of_ble_eq_true rfl) hAA.code ⟨hok.addr, hok.nonce, hok.bal, hok.code⟩
                                        replace hT := hv38
                                        replace U := U.cc x38.ch (by intro b hb; exact .inl trivial)
                                        refine l_nil ?_
                                        refine hQ25 _ _ _ (in_normal ?_)
                                        refine hQ4 _ _ _ (in_normal ?_)
                                        refine hK2 _ _ ?_
                                        refine fg0 (fun g => ?_)
                                        refine c_seq (fun K39 hK39 => ?_)
                                        exact (by
                                          refine c_region ?_
                                          refine l_step y_assignC ?_
                                          refine l_nil ?_
                                          refine hK39 _ _ ?_
                                          refine c_ret ?_
                                          repeat with_reducible refine then_ret ?_
                                          refine ret1 rfl (res_tmp (et g0 rfl)) ?_
                                          refine ⟨rfl, col, cs, ?_⟩
                                          rw [u_10 hk, mod_set hx9]
                                          exact hT)))))))))))))))))))
theorem v_undo3 {w : World} {H : Store} {col : Nat → Nat} {bc : Nat} {cs : Array Value} {V : EV} (hV : VL w H col bc cs V) (ho : VOk V) {i : Nat} {e : EEnt} {bj oj : Nat} {cj : Array Value} {vb : Value} (hJ : JAt w H col V i e bj cj vb) (hoj : oj = i * 9) (hE : EIn V e) (hk : e.kind = 3) :
    Ret 399 [.pointer (some ⟨bc, 2435, none⟩), .pointer (some ⟨bj, oj, none⟩)] w (fun v w' => v = .bool true ∧ ∃ col' cs', VT w H col bc cs w' H col' cs' (undoE V e)) := by
  have hT := VT.refl hV
  have hnw := hV.new
  have hcC := hV.colC
  have hml := ho.bd.marks
  have hpl : e.pl < V.slots.length := hE.s (by omega)
  obtain ⟨x9, hx9⟩ : ∃ x9, V.slots[e.pl]? = some x9 := ⟨_, List.getElem?_eq_getElem hpl⟩
  obtain ⟨ba, ca, cap9, hSS⟩ := hV.slot hx9
  have hac := hSS.col
  have hjc := hJ.col
  have hfit := hSS.fit
  have hok := hSS.ok
  have hke := hJ.ok
  have hkb := hke.kind
  have hkp := hke.pl
  refine enter (n := 221) Hvaa.func399 rfl rfl (Nat.le_of_ble_eq_true rfl) ?_
  have U : Ch (fun _ => True) w w := Ch.refl _ w
  refine c_seq (fun K1 hK1 => ?_)
  exact (by
    refine c_region ?_
    refine l_step y_assignC ?_
    refine l_nil ?_
    refine hK1 _ _ ?_
    refine fg2 1 0 (gS rfl (gS rfl g0)) (gS rfl g0) (fun g => ?_)
    refine c_seq (fun K2 hK2 => ?_)
    refine c_seq (fun K3 hK3 => ?_)
    exact (by
      refine c_region ?_
      refine l_step (y_moveV (et (gS rfl g0) rfl)) ?_
      refine l_step (y_nil (et g0 rfl)) ?_
      refine l_step (y_fld fld_218_0 (et g0 rfl)) ?_
      refine l_step (y_load1 one_5 (et g0 rfl) (at1 (hJ.cKind (by omega)))) ?_
      refine l_nil ?_
      refine hK3 _ _ ?_
      refine fg3 1 0 9 (gS rfl (gS rfl (gS rfl (gS rfl (gS rfl g0))))) (gS rfl (gS rfl (gS rfl (gS rfl g0)))) g0 (fun g => ?_)
      refine c_block (fun Q4 hQ4 => ?_)
      refine c_seq (fun K5 hK5 => ?_)
      refine c_seq (fun K6 hK6 => ?_)
      exact (by
        refine c_region ?_
        refine l_step (y_eql (et g0 rfl) rfl) ?_
        refine l_step (y_assignV (et g0 rfl)) ?_
        refine l_nil ?_
        refine hK6 _ _ ?_
        refine fg4 1 0 9 10 (gS rfl (gS rfl (gS rfl (gS rfl g0)))) (gS rfl (gS rfl (gS rfl g0))) (gS rfl (gS rfl g0)) g0 (fun g => ?_)
        refine c_false (et g0 rfl) (by (exact decide_eq_false (by omega))) ?_
        refine c_seq (fun K8 hK8 => ?_)
        exact (by
          refine c_region ?_
          refine l_step (y_eql (et (gS rfl g0) rfl) rfl) ?_
          refine l_step (y_assignV (et g0 rfl)) ?_
          refine l_nil ?_
          refine hK8 _ _ ?_
          refine fg4 1 0 9 10 (gS rfl (gS rfl (gS rfl (gS rfl (gS rfl g0))))) (gS rfl (gS rfl (gS rfl (gS rfl g0)))) (gS rfl (gS rfl (gS rfl g0))) g0 (fun g => ?_)
          refine c_false (et g0 rfl) (by (exact decide_eq_false (by omega))) ?_
          refine c_seq (fun K10 hK10 => ?_)
          exact (by
            refine c_region ?_
            refine l_step (y_eql (et (gS rfl g0) rfl) rfl) ?_
            refine l_step (y_assignV (et g0 rfl)) ?_
            refine l_nil ?_
            refine hK10 _ _ ?_
            refine fg4 1 0 9 10 (gS rfl (gS rfl (gS rfl (gS rfl (gS rfl g0))))) (gS rfl (gS rfl (gS rfl (gS rfl g0)))) (gS rfl (gS rfl (gS rfl g0))) g0 (fun g => ?_)
            refine c_false (et g0 rfl) (by (exact decide_eq_false (by omega))) ?_
            refine c_seq (fun K12 hK12 => ?_)
            exact (by
              refine c_region ?_
              refine l_step (y_eql (et (gS rfl g0) rfl) rfl) ?_
              refine l_step (y_assignV (et g0 rfl)) ?_
              refine l_nil ?_
              refine hK12 _ _ ?_
              refine fg4 1 0 9 10 (gS rfl (gS rfl (gS rfl (gS rfl (gS rfl g0))))) (gS rfl (gS rfl (gS rfl (gS rfl g0)))) (gS rfl (gS rfl (gS rfl g0))) g0 (fun g => ?_)
              refine c_false (et g0 rfl) (by (exact decide_eq_false (by omega))) ?_
              refine c_seq (fun K14 hK14 => ?_)
              exact (by
                refine c_region ?_
                refine l_step (y_eql (et (gS rfl g0) rfl) rfl) ?_
                refine l_step (y_assignV (et g0 rfl)) ?_
                refine l_nil ?_
                refine hK14 _ _ ?_
                refine fg4 1 0 9 10 (gS rfl (gS rfl (gS rfl (gS rfl (gS rfl g0))))) (gS rfl (gS rfl (gS rfl (gS rfl g0)))) (gS rfl (gS rfl (gS rfl g0))) g0 (fun g => ?_)
                refine c_false (et g0 rfl) (by (exact decide_eq_false (by omega))) ?_
                exact (by
                  refine c_region ?_
                  refine l_step (y_eql (et (gS rfl g0) rfl) rfl) ?_
                  refine l_step (y_assignV (et g0 rfl)) ?_
                  refine l_nil ?_
                  refine hK5 _ _ ?_
                  refine fg4 1 0 9 10 (gS rfl (gS rfl (gS rfl (gS rfl (gS rfl g0))))) (gS rfl (gS rfl (gS rfl (gS rfl g0)))) (gS rfl (gS rfl (gS rfl g0))) g0 (fun g => ?_)
                  refine c_false (et g0 rfl) (by (first | rfl | exact decide_eq_false (by omega))) ?_
                  refine c_seq (fun K17 hK17 => ?_)
                  refine c_seq (fun K18 hK18 => ?_)
                  exact (by
                    refine c_region ?_
                    refine l_step (y_eql (et (gS rfl g0) rfl) rfl) ?_
                    refine l_step (y_assignV (et g0 rfl)) ?_
                    refine l_nil ?_
                    refine hK18 _ _ ?_
                    refine fg4 1 0 9 102 (gS rfl (gS rfl (gS rfl (gS rfl (gS rfl g0))))) (gS rfl (gS rfl (gS rfl (gS rfl g0)))) (gS rfl (gS rfl (gS rfl g0))) g0 (fun g => ?_)
                    refine c_true (et g0 rfl) (by (exact decide_eq_true (by omega))) ?_
                    refine c_skip ?_
                    refine hK17 _ _ ?_
                    refine c_true (et g0 rfl) (by (first | rfl | exact decide_eq_true (by omega))) ?_
                    refine c_seq (fun K21 hK21 => ?_)
                    refine c_seq (fun K22 hK22 => ?_)
                    exact (by
                      refine c_draw Up 18 [(0, true), (1, true), (2, true), (3, true), (4, true), (5, true), (6, true), (7, true), (8, true), (9, true), (10, true), (11, true), (12, true), (13, true), (14, true), (15, true), (16, true), (17, true)] (by kernel_rfl) (fun w23 hu => ⟨Up.refl _, ?_⟩)
                      replace hT := hT.up hu
                      replace hJ := hJ.up hu
                      replace hSS := hSS.up hu
                      replace U := U.tr hu
                      have SU := Up.refl w23
                      refine p_step (by exact rfl) (y_moveV (et (gS rfl (gS rfl (gS rfl g0))) rfl)) ?_
                      refine p_step (by exact rfl) (y_nil (et g0 rfl)) ?_
                      refine p_step (by exact rfl) (y_fld fld_218_1 (et g0 rfl)) ?_
                      refine p_step (by exact rfl) (y_load1 one_21 (et g0 rfl) (atS (hJ.cAt (by omega)))) ?_
                      refine p_step (by exact rfl) (y_lss (et g0 rfl) rfl) ?_
                      refine p_step (by exact rfl) (y_moveV (et g0 rfl)) ?_
                      refine gsplitP (i := 110) g0 (fun q24 => ?_) (fun q24 => ?_)
                      · skip
                        exact absurd (of_decide_eq_true q24) (by omega)
                      · skip
                        refine p_gstep (j := 5) (t := 110) (by exact rfl) (by exact rfl) (by exact rfl) (et g0 rfl) rfl (y_moveV (et (gS rfl (gS rfl (gS rfl (gS rfl (gS rfl (gS rfl (gS rfl (gS rfl (gS rfl (gS rfl g0)))))))))) rfl)) ?_
                        refine p_gstep (j := 5) (t := 110) (by exact rfl) (by exact rfl) (by exact rfl) (et (gS rfl g0) rfl) rfl (y_nil (et g0 rfl)) ?_
                        refine p_gstep (j := 5) (t := 110) (by exact rfl) (by exact rfl) (by exact rfl) (et (gS rfl (gS rfl g0)) rfl) rfl (y_fld fld_218_1 (et g0 rfl)) ?_
                        refine p_gstep (j := 5) (t := 110) (by exact rfl) (by exact rfl) (by exact rfl) (et (gS rfl (gS rfl (gS rfl g0))) rfl) rfl (y_load1 one_21 (et g0 rfl) (atS (hJ.cAt (by omega)))) ?_
                        refine p_gstep (j := 5) (t := 110) (by exact rfl) (by exact rfl) (by exact rfl) (et (gS rfl (gS rfl (gS rfl (gS rfl g0)))) rfl) rfl (y_conv Hvaa.underlying21 Hvaa.underlying3 (et g0 rfl) (wrapIN ?_)) ?_
                        omega
                        refine p_gstep (j := 5) (t := 110) (by exact rfl) (by exact rfl) (by exact rfl) (et (gS rfl (gS rfl (gS rfl (gS rfl (gS rfl g0))))) rfl) rfl (y_moveV (et (gS rfl (gS rfl (gS rfl (gS rfl (gS rfl (gS rfl (gS rfl (gS rfl (gS rfl (gS rfl (gS rfl (gS rfl (gS rfl (gS rfl g0)))))))))))))) rfl)) ?_
                        refine p_gstep (j := 5) (t := 110) (by exact rfl) (by exact rfl) (by exact rfl) (et (gS rfl (gS rfl (gS rfl (gS rfl (gS rfl (gS rfl g0)))))) rfl) rfl (y_nil (et g0 rfl)) ?_
                        refine p_gstep (j := 5) (t := 110) (by exact rfl) (by exact rfl) (by exact rfl) (et (gS rfl (gS rfl (gS rfl (gS rfl (gS rfl (gS rfl (gS rfl g0))))))) rfl) rfl (y_fld fld_84_1 (et g0 rfl)) ?_
                        refine p_gstep (j := 5) (t := 110) (by exact rfl) (by exact rfl) (by exact rfl) (et (gS rfl (gS rfl (gS rfl (gS rfl (gS rfl (gS rfl (gS rfl (gS rfl g0)))))))) rfl) rfl (y_load1 one_77 (et g0 rfl) (atS (hT.vl.c1 hSS.sl rfl))) ?_
                        refine p_gstep (j := 5) (t := 110) (by exact rfl) (by exact rfl) (by exact rfl) (et (gS rfl (gS rfl (gS rfl (gS rfl (gS rfl (gS rfl (gS rfl (gS rfl (gS rfl g0))))))))) rfl) rfl (y_len Hvaa.underlying77 (et g0 rfl)) ?_
                        refine p_gstep (j := 5) (t := 110) (by exact rfl) (by exact rfl) (by exact rfl) (et (gS rfl (gS rfl (gS rfl (gS rfl (gS rfl (gS rfl (gS rfl (gS rfl (gS rfl (gS rfl g0)))))))))) rfl) rfl (y_geq (et (gS rfl (gS rfl (gS rfl (gS rfl (gS rfl g0))))) rfl) (et g0 rfl)) ?_
                        refine p_step (by exact rfl) (y_pickF (et (gS rfl (gS rfl (gS rfl (gS rfl (gS rfl (gS rfl (gS rfl (gS rfl (gS rfl (gS rfl (gS rfl g0))))))))))) rfl) (et g0 rfl)) ?_
                        refine p_nil ?_
                        refine hK22 _ _ ?_
                        refine fg3 1 0 122 (gS rfl (gS rfl (gS rfl (gS rfl (gS rfl (gS rfl (gS rfl (gS rfl (gS rfl (gS rfl (gS rfl (gS rfl (gS rfl (gS rfl (gS rfl (gS rfl (gS rfl (gS rfl (gS rfl (gS rfl (gS rfl (gS rfl g0)))))))))))))))))))))) (gS rfl (gS rfl (gS rfl (gS rfl (gS rfl (gS rfl (gS rfl (gS rfl (gS rfl (gS rfl (gS rfl (gS rfl (gS rfl (gS rfl (gS rfl (gS rfl (gS rfl (gS rfl (gS rfl (gS rfl (gS rfl g0))))))))))))))))))))) g0 (fun g => ?_)
                        refine c_false (et g0 rfl) (by (exact decide_eq_false (by omega))) ?_
                        refine c_skip ?_
                        refine hK21 _ _ ?_
                        refine fg2 1 0 (gS rfl (gS rfl g0)) (gS rfl g0) (fun g => ?_)
                        refine c_seq (fun K26 hK26 => ?_)
                        exact (by
                          refine c_region ?_
                          refine l_step (y_moveV (et (gS rfl g0) rfl)) ?_
                          refine l_step (y_nil (et g0 rfl)) ?_
                          refine l_step (y_fld fld_218_0 (et g0 rfl)) ?_
                          refine l_step (y_load1 one_5 (et g0 rfl) (at1 (hJ.cKind (by omega)))) ?_
                          refine l_step (y_eql (et g0 rfl) rfl) ?_
                          refine l_nil ?_
                          refine hK26 _ _ ?_
                          refine fg3 1 0 127 (gS rfl (gS rfl (gS rfl (gS rfl (gS rfl (gS rfl g0)))))) (gS rfl (gS rfl (gS rfl (gS rfl (gS rfl g0))))) g0 (fun g => ?_)
                          refine c_true (et g0 rfl) (by (exact decide_eq_true (by omega))) ?_
                          exact (by
                            refine c_draw Up 14 [(0, true), (1, true), (2, true), (3, true), (4, true), (5, true), (6, true), (7, true), (8, true), (9, true), (10, true), (11, true), (12, true), (13, true), (14, false)] (by kernel_rfl) (fun w28 hu => ⟨Up.refl _, ?_⟩)
                            replace hT := hT.up hu
                            replace hJ := hJ.up hu
                            replace hSS := hSS.up hu
                            replace U := U.tr hu
                            have SU := Up.refl w28
                            refine p_step (by exact rfl) (y_moveV (et (gS rfl g0) rfl)) ?_
                            refine p_step (by exact rfl) (y_nil (et g0 rfl)) ?_
                            refine p_step (by exact rfl) (y_fld fld_84_1 (et g0 rfl)) ?_
                            refine p_step (by exact rfl) (y_load1 one_77 (et g0 rfl) (atS (hT.vl.c1 hSS.sl rfl))) ?_
                            refine p_step (by exact rfl) (y_moveV (et (gS rfl (gS rfl (gS rfl (gS rfl (gS rfl (gS rfl g0)))))) rfl)) ?_
                            refine p_step (by exact rfl) (y_nil (et g0 rfl)) ?_
                            refine p_step (by exact rfl) (y_fld fld_218_1 (et g0 rfl)) ?_
                            refine p_step (by exact rfl) (y_load1 one_21 (et g0 rfl) (atS (hJ.cAt (by omega)))) ?_
                            refine p_step (by exact rfl) (y_moveV (et (gS rfl (gS rfl (gS rfl (gS rfl (gS rfl (gS rfl (gS rfl (gS rfl (gS rfl (gS rfl g0)))))))))) rfl)) ?_
                            refine p_step (by exact rfl) (y_nil (et g0 rfl)) ?_
                            refine p_step (by exact rfl) (y_fld fld_218_3 (et g0 rfl)) ?_
                            refine p_step (by exact rfl) (y_loadR agg_65 sz_65 (et g0 rfl) rfl (atSR (hJ.rW (by omega)))) ?_
                            refine p_step (by exact rfl) (y_idxS Hvaa.underlying77 sz_176 (et (gS rfl (gS rfl (gS rfl (gS rfl (gS rfl (gS rfl (gS rfl (gS rfl g0)))))))) rfl) (et (gS rfl (gS rfl (gS rfl (gS rfl g0)))) rfl) ?_ ?_) ?_
                            omega
                            omega
                            refine p_step (by exact rfl) (y_fld fld_176_2 (et g0 rfl)) ?_
                            refine p_effN (by exact rfl) (e_store sz_65 (et g0 rfl) (cellsV (et (gS rfl (gS rfl g0)) rfl) rfl) rfl (by exact one_uL _) hSS.kA (by have h9 := hfit; omega)) (fun v29 w29 h29 => ?_)
                            obtain ⟨rfl, x29⟩ := h29
                            have hv29 := hT.setS hSS (j := 5) (y := { x9 with val := e.w }) (by omega) x29 rfl (Nat.le_of_ble_eq_true rfl) ⟨hok.acct, hok.key, hke.w, hok.orig⟩
                            replace hT := hv29
                            replace U := U.cc x29.ch (by intro b hb; exact .inl trivial)
                            refine ⟨.inl rfl, ?_⟩
                            refine p_nil ?_
                            refine hQ4 _ _ _ (in_normal ?_)
                            refine hK2 _ _ ?_
                            refine fg0 (fun g => ?_)
                            refine c_seq (fun K30 hK30 => ?_)
                            exact (by
                              refine c_region ?_
                              refine l_step y_assignC ?_
                              refine l_nil ?_
                              refine hK30 _ _ ?_
                              refine c_ret ?_
                              repeat with_reducible refine then_ret ?_
                              refine ret1 rfl (res_tmp (et g0 rfl)) ?_
                              refine ⟨rfl, col, cs, ?_⟩
                              rw [u_3 hk, mod_set hx9]
                              exact hT)))))))))))))
theorem v_undo5 {w : World} {H : Store} {col : Nat → Nat} {bc : Nat} {cs : Array Value} {V : EV} (hV : VL w H col bc cs V) (ho : VOk V) {i : Nat} {e : EEnt} {bj oj : Nat} {cj : Array Value} {vb : Value} (hJ : JAt w H col V i e bj cj vb) (hoj : oj = i * 9) (hE : EIn V e) (hk : e.kind = 5) :
    Ret 399 [.pointer (some ⟨bc, 2435, none⟩), .pointer (some ⟨bj, oj, none⟩)] w (fun v w' => v = .bool true ∧ ∃ col' cs', VT w H col bc cs w' H col' cs' (undoE V e)) := by
  have hT := VT.refl hV
  have hnw := hV.new
  have hcC := hV.colC
  have hml := ho.bd.marks
  have hpl : e.pl < V.slots.length := hE.s (by omega)
  obtain ⟨x9, hx9⟩ : ∃ x9, V.slots[e.pl]? = some x9 := ⟨_, List.getElem?_eq_getElem hpl⟩
  obtain ⟨ba, ca, cap9, hSS⟩ := hV.slot hx9
  have hac := hSS.col
  have hjc := hJ.col
  have hfit := hSS.fit
  have hok := hSS.ok
  have hke := hJ.ok
  have hkb := hke.kind
  have hkp := hke.pl
  refine enter (n := 221) Hvaa.func399 rfl rfl (Nat.le_of_ble_eq_true rfl) ?_
  have U : Ch (fun _ => True) w w := Ch.refl _ w
  refine c_seq (fun K1 hK1 => ?_)
  exact (by
    refine c_region ?_
    refine l_step y_assignC ?_
    refine l_nil ?_
    refine hK1 _ _ ?_
    refine fg2 1 0 (gS rfl (gS rfl g0)) (gS rfl g0) (fun g => ?_)
    refine c_seq (fun K2 hK2 => ?_)
    refine c_seq (fun K3 hK3 => ?_)
    exact (by
      refine c_region ?_
      refine l_step (y_moveV (et (gS rfl g0) rfl)) ?_
      refine l_step (y_nil (et g0 rfl)) ?_
      refine l_step (y_fld fld_218_0 (et g0 rfl)) ?_
      refine l_step (y_load1 one_5 (et g0 rfl) (at1 (hJ.cKind (by omega)))) ?_
      refine l_nil ?_
      refine hK3 _ _ ?_
      refine fg3 1 0 9 (gS rfl (gS rfl (gS rfl (gS rfl (gS rfl g0))))) (gS rfl (gS rfl (gS rfl (gS rfl g0)))) g0 (fun g => ?_)
      refine c_block (fun Q4 hQ4 => ?_)
      refine c_seq (fun K5 hK5 => ?_)
      refine c_seq (fun K6 hK6 => ?_)
      exact (by
        refine c_region ?_
        refine l_step (y_eql (et g0 rfl) rfl) ?_
        refine l_step (y_assignV (et g0 rfl)) ?_
        refine l_nil ?_
        refine hK6 _ _ ?_
        refine fg4 1 0 9 10 (gS rfl (gS rfl (gS rfl (gS rfl g0)))) (gS rfl (gS rfl (gS rfl g0))) (gS rfl (gS rfl g0)) g0 (fun g => ?_)
        refine c_false (et g0 rfl) (by (exact decide_eq_false (by omega))) ?_
        refine c_seq (fun K8 hK8 => ?_)
        exact (by
          refine c_region ?_
          refine l_step (y_eql (et (gS rfl g0) rfl) rfl) ?_
          refine l_step (y_assignV (et g0 rfl)) ?_
          refine l_nil ?_
          refine hK8 _ _ ?_
          refine fg4 1 0 9 10 (gS rfl (gS rfl (gS rfl (gS rfl (gS rfl g0))))) (gS rfl (gS rfl (gS rfl (gS rfl g0)))) (gS rfl (gS rfl (gS rfl g0))) g0 (fun g => ?_)
          refine c_false (et g0 rfl) (by (exact decide_eq_false (by omega))) ?_
          refine c_seq (fun K10 hK10 => ?_)
          exact (by
            refine c_region ?_
            refine l_step (y_eql (et (gS rfl g0) rfl) rfl) ?_
            refine l_step (y_assignV (et g0 rfl)) ?_
            refine l_nil ?_
            refine hK10 _ _ ?_
            refine fg4 1 0 9 10 (gS rfl (gS rfl (gS rfl (gS rfl (gS rfl g0))))) (gS rfl (gS rfl (gS rfl (gS rfl g0)))) (gS rfl (gS rfl (gS rfl g0))) g0 (fun g => ?_)
            refine c_false (et g0 rfl) (by (exact decide_eq_false (by omega))) ?_
            refine c_seq (fun K12 hK12 => ?_)
            exact (by
              refine c_region ?_
              refine l_step (y_eql (et (gS rfl g0) rfl) rfl) ?_
              refine l_step (y_assignV (et g0 rfl)) ?_
              refine l_nil ?_
              refine hK12 _ _ ?_
              refine fg4 1 0 9 10 (gS rfl (gS rfl (gS rfl (gS rfl (gS rfl g0))))) (gS rfl (gS rfl (gS rfl (gS rfl g0)))) (gS rfl (gS rfl (gS rfl g0))) g0 (fun g => ?_)
              refine c_false (et g0 rfl) (by (exact decide_eq_false (by omega))) ?_
              refine c_seq (fun K14 hK14 => ?_)
              exact (by
                refine c_region ?_
                refine l_step (y_eql (et (gS rfl g0) rfl) rfl) ?_
                refine l_step (y_assignV (et g0 rfl)) ?_
                refine l_nil ?_
                refine hK14 _ _ ?_
                refine fg4 1 0 9 10 (gS rfl (gS rfl (gS rfl (gS rfl (gS rfl g0))))) (gS rfl (gS rfl (gS rfl (gS rfl g0)))) (gS rfl (gS rfl (gS rfl g0))) g0 (fun g => ?_)
                refine c_false (et g0 rfl) (by (exact decide_eq_false (by omega))) ?_
                exact (by
                  refine c_region ?_
                  refine l_step (y_eql (et (gS rfl g0) rfl) rfl) ?_
                  refine l_step (y_assignV (et g0 rfl)) ?_
                  refine l_nil ?_
                  refine hK5 _ _ ?_
                  refine fg4 1 0 9 10 (gS rfl (gS rfl (gS rfl (gS rfl (gS rfl g0))))) (gS rfl (gS rfl (gS rfl (gS rfl g0)))) (gS rfl (gS rfl (gS rfl g0))) g0 (fun g => ?_)
                  refine c_false (et g0 rfl) (by (first | rfl | exact decide_eq_false (by omega))) ?_
                  refine c_seq (fun K17 hK17 => ?_)
                  refine c_seq (fun K18 hK18 => ?_)
                  exact (by
                    refine c_region ?_
                    refine l_step (y_eql (et (gS rfl g0) rfl) rfl) ?_
                    refine l_step (y_assignV (et g0 rfl)) ?_
                    refine l_nil ?_
                    refine hK18 _ _ ?_
                    refine fg4 1 0 9 102 (gS rfl (gS rfl (gS rfl (gS rfl (gS rfl g0))))) (gS rfl (gS rfl (gS rfl (gS rfl g0)))) (gS rfl (gS rfl (gS rfl g0))) g0 (fun g => ?_)
                    refine c_false (et g0 rfl) (by (exact decide_eq_false (by omega))) ?_
                    exact (by
                      refine c_region ?_
                      refine l_step (y_eql (et (gS rfl g0) rfl) rfl) ?_
                      refine l_step (y_assignV (et g0 rfl)) ?_
                      refine l_nil ?_
                      refine hK17 _ _ ?_
                      refine fg4 1 0 9 102 (gS rfl (gS rfl (gS rfl (gS rfl (gS rfl g0))))) (gS rfl (gS rfl (gS rfl (gS rfl g0)))) (gS rfl (gS rfl (gS rfl g0))) g0 (fun g => ?_)
                      refine c_true (et g0 rfl) (by (first | rfl | exact decide_eq_true (by omega))) ?_
                      refine c_seq (fun K21 hK21 => ?_)
                      refine c_seq (fun K22 hK22 => ?_)
                      exact (by
                        refine c_draw Up 18 [(0, true), (1, true), (2, true), (3, true), (4, true), (5, true), (6, true), (7, true), (8, true), (9, true), (10, true), (11, true), (12, true), (13, true), (14, true), (15, true), (16, true), (17, true)] (by kernel_rfl) (fun w23 hu => ⟨Up.refl _, ?_⟩)
                        replace hT := hT.up hu
                        replace hJ := hJ.up hu
                        replace hSS := hSS.up hu
                        replace U := U.tr hu
                        have SU := Up.refl w23
                        refine p_step (by exact rfl) (y_moveV (et (gS rfl (gS rfl (gS rfl g0))) rfl)) ?_
                        refine p_step (by exact rfl) (y_nil (et g0 rfl)) ?_
                        refine p_step (by exact rfl) (y_fld fld_218_1 (et g0 rfl)) ?_
                        refine p_step (by exact rfl) (y_load1 one_21 (et g0 rfl) (atS (hJ.cAt (by omega)))) ?_
                        refine p_step (by exact rfl) (y_lss (et g0 rfl) rfl) ?_
                        refine p_step (by exact rfl) (y_moveV (et g0 rfl)) ?_
                        refine gsplitP (i := 110) g0 (fun q24 => ?_) (fun q24 => ?_)
                        · skip
                          exact absurd (of_decide_eq_true q24) (by omega)
                        · skip
                          refine p_gstep (j := 5) (t := 110) (by exact rfl) (by exact rfl) (by exact rfl) (et g0 rfl) rfl (y_moveV (et (gS rfl (gS rfl (gS rfl (gS rfl (gS rfl (gS rfl (gS rfl (gS rfl (gS rfl (gS rfl g0)))))))))) rfl)) ?_
                          refine p_gstep (j := 5) (t := 110) (by exact rfl) (by exact rfl) (by exact rfl) (et (gS rfl g0) rfl) rfl (y_nil (et g0 rfl)) ?_
                          refine p_gstep (j := 5) (t := 110) (by exact rfl) (by exact rfl) (by exact rfl) (et (gS rfl (gS rfl g0)) rfl) rfl (y_fld fld_218_1 (et g0 rfl)) ?_
                          refine p_gstep (j := 5) (t := 110) (by exact rfl) (by exact rfl) (by exact rfl) (et (gS rfl (gS rfl (gS rfl g0))) rfl) rfl (y_load1 one_21 (et g0 rfl) (atS (hJ.cAt (by omega)))) ?_
                          refine p_gstep (j := 5) (t := 110) (by exact rfl) (by exact rfl) (by exact rfl) (et (gS rfl (gS rfl (gS rfl (gS rfl g0)))) rfl) rfl (y_conv Hvaa.underlying21 Hvaa.underlying3 (et g0 rfl) (wrapIN ?_)) ?_
                          omega
                          refine p_gstep (j := 5) (t := 110) (by exact rfl) (by exact rfl) (by exact rfl) (et (gS rfl (gS rfl (gS rfl (gS rfl (gS rfl g0))))) rfl) rfl (y_moveV (et (gS rfl (gS rfl (gS rfl (gS rfl (gS rfl (gS rfl (gS rfl (gS rfl (gS rfl (gS rfl (gS rfl (gS rfl (gS rfl (gS rfl g0)))))))))))))) rfl)) ?_
                          refine p_gstep (j := 5) (t := 110) (by exact rfl) (by exact rfl) (by exact rfl) (et (gS rfl (gS rfl (gS rfl (gS rfl (gS rfl (gS rfl g0)))))) rfl) rfl (y_nil (et g0 rfl)) ?_
                          refine p_gstep (j := 5) (t := 110) (by exact rfl) (by exact rfl) (by exact rfl) (et (gS rfl (gS rfl (gS rfl (gS rfl (gS rfl (gS rfl (gS rfl g0))))))) rfl) rfl (y_fld fld_84_1 (et g0 rfl)) ?_
                          refine p_gstep (j := 5) (t := 110) (by exact rfl) (by exact rfl) (by exact rfl) (et (gS rfl (gS rfl (gS rfl (gS rfl (gS rfl (gS rfl (gS rfl (gS rfl g0)))))))) rfl) rfl (y_load1 one_77 (et g0 rfl) (atS (hT.vl.c1 hSS.sl rfl))) ?_
                          refine p_gstep (j := 5) (t := 110) (by exact rfl) (by exact rfl) (by exact rfl) (et (gS rfl (gS rfl (gS rfl (gS rfl (gS rfl (gS rfl (gS rfl (gS rfl (gS rfl g0))))))))) rfl) rfl (y_len Hvaa.underlying77 (et g0 rfl)) ?_
                          refine p_gstep (j := 5) (t := 110) (by exact rfl) (by exact rfl) (by exact rfl) (et (gS rfl (gS rfl (gS rfl (gS rfl (gS rfl (gS rfl (gS rfl (gS rfl (gS rfl (gS rfl g0)))))))))) rfl) rfl (y_geq (et (gS rfl (gS rfl (gS rfl (gS rfl (gS rfl g0))))) rfl) (et g0 rfl)) ?_
                          refine p_step (by exact rfl) (y_pickF (et (gS rfl (gS rfl (gS rfl (gS rfl (gS rfl (gS rfl (gS rfl (gS rfl (gS rfl (gS rfl (gS rfl g0))))))))))) rfl) (et g0 rfl)) ?_
                          refine p_nil ?_
                          refine hK22 _ _ ?_
                          refine fg3 1 0 122 (gS rfl (gS rfl (gS rfl (gS rfl (gS rfl (gS rfl (gS rfl (gS rfl (gS rfl (gS rfl (gS rfl (gS rfl (gS rfl (gS rfl (gS rfl (gS rfl (gS rfl (gS rfl (gS rfl (gS rfl (gS rfl (gS rfl g0)))))))))))))))))))))) (gS rfl (gS rfl (gS rfl (gS rfl (gS rfl (gS rfl (gS rfl (gS rfl (gS rfl (gS rfl (gS rfl (gS rfl (gS rfl (gS rfl (gS rfl (gS rfl (gS rfl (gS rfl (gS rfl (gS rfl (gS rfl g0))))))))))))))))))))) g0 (fun g => ?_)
                          refine c_false (et g0 rfl) (by (exact decide_eq_false (by omega))) ?_
                          refine c_skip ?_
                          refine hK21 _ _ ?_
                          refine fg2 1 0 (gS rfl (gS rfl g0)) (gS rfl g0) (fun g => ?_)
                          refine c_seq (fun K26 hK26 => ?_)
                          exact (by
                            refine c_region ?_
                            refine l_step (y_moveV (et (gS rfl g0) rfl)) ?_
                            refine l_step (y_nil (et g0 rfl)) ?_
                            refine l_step (y_fld fld_218_0 (et g0 rfl)) ?_
                            refine l_step (y_load1 one_5 (et g0 rfl) (at1 (hJ.cKind (by omega)))) ?_
                            refine l_step (y_eql (et g0 rfl) rfl) ?_
                            refine l_nil ?_
                            refine hK26 _ _ ?_
                            refine fg3 1 0 127 (gS rfl (gS rfl (gS rfl (gS rfl (gS rfl (gS rfl g0)))))) (gS rfl (gS rfl (gS rfl (gS rfl (gS rfl g0))))) g0 (fun g => ?_)
                            refine c_false (et g0 rfl) (by (exact decide_eq_false (by omega))) ?_
                            exact (by
                              refine c_draw Up 14 [(0, true), (1, true), (2, true), (3, true), (4, true), (5, true), (6, true), (7, true), (8, true), (9, true), (10, true), (11, true), (12, true), (13, true), (14, false)] (by kernel_rfl) (fun w28 hu => ⟨Up.refl _, ?_⟩)
                              replace hT := hT.up hu
                              replace hJ := hJ.up hu
                              replace hSS := hSS.up hu
                              replace U := U.tr hu
                              have SU := Up.refl w28
                              refine p_step (by exact rfl) (y_moveV (et (gS rfl g0) rfl)) ?_
                              refine p_step (by exact rfl) (y_nil (et g0 rfl)) ?_
                              refine p_step (by exact rfl) (y_fld fld_84_1 (et g0 rfl)) ?_
                              refine p_step (by exact rfl) (y_load1 one_77 (et g0 rfl) (atS (hT.vl.c1 hSS.sl rfl))) ?_
                              refine p_step (by exact rfl) (y_moveV (et (gS rfl (gS rfl (gS rfl (gS rfl (gS rfl (gS rfl g0)))))) rfl)) ?_
                              refine p_step (by exact rfl) (y_nil (et g0 rfl)) ?_
                              refine p_step (by exact rfl) (y_fld fld_218_1 (et g0 rfl)) ?_
                              refine p_step (by exact rfl) (y_load1 one_21 (et g0 rfl) (atS (hJ.cAt (by omega)))) ?_
                              refine p_step (by exact rfl) (y_moveV (et (gS rfl (gS rfl (gS rfl (gS rfl (gS rfl (gS rfl (gS rfl (gS rfl (gS rfl (gS rfl g0)))))))))) rfl)) ?_
                              refine p_step (by exact rfl) (y_nil (et g0 rfl)) ?_
                              refine p_step (by exact rfl) (y_fld fld_218_5 (et g0 rfl)) ?_
                              refine p_step (by exact rfl) (y_load1 one_4 (et g0 rfl) (atS (hJ.cFlag (by omega)))) ?_
                              refine p_step (by exact rfl) (y_idxS Hvaa.underlying77 sz_176 (et (gS rfl (gS rfl (gS rfl (gS rfl (gS rfl (gS rfl (gS rfl (gS rfl g0)))))))) rfl) (et (gS rfl (gS rfl (gS rfl (gS rfl g0)))) rfl) ?_ ?_) ?_
                              omega
                              omega
                              refine p_step (by exact rfl) (y_fld fld_176_4 (et g0 rfl)) ?_
                              refine p_effN (by exact rfl) (e_store sz_4 (et g0 rfl) (cellsV (et (gS rfl (gS rfl g0)) rfl) rfl) rfl (by intro v hv; simp at hv; subst hv; rfl) hSS.kA (by have h9 := hfit; omega)) (fun v29 w29 h29 => ?_)
                              obtain ⟨rfl, x29⟩ := h29
                              have hv29 := hT.setS hSS (j := 13) (y := { x9 with warm := e.flag }) (by omega) x29 rfl (Nat.le_of_ble_eq_true rfl) ⟨hok.acct, hok.key, hok.val, hok.orig⟩
                              replace hT := hv29
                              replace U := U.cc x29.ch (by intro b hb; exact .inl trivial)
                              refine ⟨.inl rfl, ?_⟩
                              refine p_nil ?_
                              refine hQ4 _ _ _ (in_normal ?_)
                              refine hK2 _ _ ?_
                              refine fg0 (fun g => ?_)
                              refine c_seq (fun K30 hK30 => ?_)
                              exact (by
                                refine c_region ?_
                                refine l_step y_assignC ?_
                                refine l_nil ?_
                                refine hK30 _ _ ?_
                                refine c_ret ?_
                                repeat with_reducible refine then_ret ?_
                                refine ret1 rfl (res_tmp (et g0 rfl)) ?_
                                refine ⟨rfl, col, cs, ?_⟩
                                rw [u_5 hk, mod_set hx9]
                                exact hT))))))))))))))
theorem v_undo8 {w : World} {H : Store} {col : Nat → Nat} {bc : Nat} {cs : Array Value} {V : EV} (hV : VL w H col bc cs V) (ho : VOk V) {i : Nat} {e : EEnt} {bj oj : Nat} {cj : Array Value} {vb : Value} (hJ : JAt w H col V i e bj cj vb) (hoj : oj = i * 9) (hE : EIn V e) (hk : e.kind = 8) :
    Ret 399 [.pointer (some ⟨bc, 2435, none⟩), .pointer (some ⟨bj, oj, none⟩)] w (fun v w' => v = .bool true ∧ ∃ col' cs', VT w H col bc cs w' H col' cs' (undoE V e)) := by
  have hT := VT.refl hV
  have hnw := hV.new
  have hcC := hV.colC
  have hml := ho.bd.marks
  have hpl : e.pl < V.temps.length := hE.t hk
  obtain ⟨x9, hx9⟩ : ∃ x9, V.temps[e.pl]? = some x9 := ⟨_, List.getElem?_eq_getElem hpl⟩
  obtain ⟨ba, ca, cap9, hTT⟩ := hV.temp hx9
  have hac := hTT.col
  have hjc := hJ.col
  have hfit := hTT.fit
  have hok := hTT.ok
  have hke := hJ.ok
  have hkb := hke.kind
  have hkp := hke.pl
  refine enter (n := 221) Hvaa.func399 rfl rfl (Nat.le_of_ble_eq_true rfl) ?_
  have U : Ch (fun _ => True) w w := Ch.refl _ w
  refine c_seq (fun K1 hK1 => ?_)
  exact (by
    refine c_region ?_
    refine l_step y_assignC ?_
    refine l_nil ?_
    refine hK1 _ _ ?_
    refine fg2 1 0 (gS rfl (gS rfl g0)) (gS rfl g0) (fun g => ?_)
    refine c_seq (fun K2 hK2 => ?_)
    refine c_seq (fun K3 hK3 => ?_)
    exact (by
      refine c_region ?_
      refine l_step (y_moveV (et (gS rfl g0) rfl)) ?_
      refine l_step (y_nil (et g0 rfl)) ?_
      refine l_step (y_fld fld_218_0 (et g0 rfl)) ?_
      refine l_step (y_load1 one_5 (et g0 rfl) (at1 (hJ.cKind (by omega)))) ?_
      refine l_nil ?_
      refine hK3 _ _ ?_
      refine fg3 1 0 9 (gS rfl (gS rfl (gS rfl (gS rfl (gS rfl g0))))) (gS rfl (gS rfl (gS rfl (gS rfl g0)))) g0 (fun g => ?_)
      refine c_block (fun Q4 hQ4 => ?_)
      refine c_seq (fun K5 hK5 => ?_)
      refine c_seq (fun K6 hK6 => ?_)
      exact (by
        refine c_region ?_
        refine l_step (y_eql (et g0 rfl) rfl) ?_
        refine l_step (y_assignV (et g0 rfl)) ?_
        refine l_nil ?_
        refine hK6 _ _ ?_
        refine fg4 1 0 9 10 (gS rfl (gS rfl (gS rfl (gS rfl g0)))) (gS rfl (gS rfl (gS rfl g0))) (gS rfl (gS rfl g0)) g0 (fun g => ?_)
        refine c_false (et g0 rfl) (by (exact decide_eq_false (by omega))) ?_
        refine c_seq (fun K8 hK8 => ?_)
        exact (by
          refine c_region ?_
          refine l_step (y_eql (et (gS rfl g0) rfl) rfl) ?_
          refine l_step (y_assignV (et g0 rfl)) ?_
          refine l_nil ?_
          refine hK8 _ _ ?_
          refine fg4 1 0 9 10 (gS rfl (gS rfl (gS rfl (gS rfl (gS rfl g0))))) (gS rfl (gS rfl (gS rfl (gS rfl g0)))) (gS rfl (gS rfl (gS rfl g0))) g0 (fun g => ?_)
          refine c_false (et g0 rfl) (by (exact decide_eq_false (by omega))) ?_
          refine c_seq (fun K10 hK10 => ?_)
          exact (by
            refine c_region ?_
            refine l_step (y_eql (et (gS rfl g0) rfl) rfl) ?_
            refine l_step (y_assignV (et g0 rfl)) ?_
            refine l_nil ?_
            refine hK10 _ _ ?_
            refine fg4 1 0 9 10 (gS rfl (gS rfl (gS rfl (gS rfl (gS rfl g0))))) (gS rfl (gS rfl (gS rfl (gS rfl g0)))) (gS rfl (gS rfl (gS rfl g0))) g0 (fun g => ?_)
            refine c_false (et g0 rfl) (by (exact decide_eq_false (by omega))) ?_
            refine c_seq (fun K12 hK12 => ?_)
            exact (by
              refine c_region ?_
              refine l_step (y_eql (et (gS rfl g0) rfl) rfl) ?_
              refine l_step (y_assignV (et g0 rfl)) ?_
              refine l_nil ?_
              refine hK12 _ _ ?_
              refine fg4 1 0 9 10 (gS rfl (gS rfl (gS rfl (gS rfl (gS rfl g0))))) (gS rfl (gS rfl (gS rfl (gS rfl g0)))) (gS rfl (gS rfl (gS rfl g0))) g0 (fun g => ?_)
              refine c_false (et g0 rfl) (by (exact decide_eq_false (by omega))) ?_
              refine c_seq (fun K14 hK14 => ?_)
              exact (by
                refine c_region ?_
                refine l_step (y_eql (et (gS rfl g0) rfl) rfl) ?_
                refine l_step (y_assignV (et g0 rfl)) ?_
                refine l_nil ?_
                refine hK14 _ _ ?_
                refine fg4 1 0 9 10 (gS rfl (gS rfl (gS rfl (gS rfl (gS rfl g0))))) (gS rfl (gS rfl (gS rfl (gS rfl g0)))) (gS rfl (gS rfl (gS rfl g0))) g0 (fun g => ?_)
                refine c_false (et g0 rfl) (by (exact decide_eq_false (by omega))) ?_
                exact (by
                  refine c_region ?_
                  refine l_step (y_eql (et (gS rfl g0) rfl) rfl) ?_
                  refine l_step (y_assignV (et g0 rfl)) ?_
                  refine l_nil ?_
                  refine hK5 _ _ ?_
                  refine fg4 1 0 9 10 (gS rfl (gS rfl (gS rfl (gS rfl (gS rfl g0))))) (gS rfl (gS rfl (gS rfl (gS rfl g0)))) (gS rfl (gS rfl (gS rfl g0))) g0 (fun g => ?_)
                  refine c_false (et g0 rfl) (by (first | rfl | exact decide_eq_false (by omega))) ?_
                  refine c_seq (fun K17 hK17 => ?_)
                  refine c_seq (fun K18 hK18 => ?_)
                  exact (by
                    refine c_region ?_
                    refine l_step (y_eql (et (gS rfl g0) rfl) rfl) ?_
                    refine l_step (y_assignV (et g0 rfl)) ?_
                    refine l_nil ?_
                    refine hK18 _ _ ?_
                    refine fg4 1 0 9 102 (gS rfl (gS rfl (gS rfl (gS rfl (gS rfl g0))))) (gS rfl (gS rfl (gS rfl (gS rfl g0)))) (gS rfl (gS rfl (gS rfl g0))) g0 (fun g => ?_)
                    refine c_false (et g0 rfl) (by (exact decide_eq_false (by omega))) ?_
                    exact (by
                      refine c_region ?_
                      refine l_step (y_eql (et (gS rfl g0) rfl) rfl) ?_
                      refine l_step (y_assignV (et g0 rfl)) ?_
                      refine l_nil ?_
                      refine hK17 _ _ ?_
                      refine fg4 1 0 9 102 (gS rfl (gS rfl (gS rfl (gS rfl (gS rfl g0))))) (gS rfl (gS rfl (gS rfl (gS rfl g0)))) (gS rfl (gS rfl (gS rfl g0))) g0 (fun g => ?_)
                      refine c_false (et g0 rfl) (by (first | rfl | exact decide_eq_false (by omega))) ?_
                      refine c_seq (fun K21 hK21 => ?_)
                      exact (by
                        refine c_region ?_
                        refine l_step (y_eql (et (gS rfl g0) rfl) rfl) ?_
                        refine l_step (y_assignV (et g0 rfl)) ?_
                        refine l_nil ?_
                        refine hK21 _ _ ?_
                        refine fg4 1 0 9 156 (gS rfl (gS rfl (gS rfl (gS rfl (gS rfl g0))))) (gS rfl (gS rfl (gS rfl (gS rfl g0)))) (gS rfl (gS rfl (gS rfl g0))) g0 (fun g => ?_)
                        refine c_true (et g0 rfl) (by (exact decide_eq_true (by omega))) ?_
                        refine c_seq (fun K23 hK23 => ?_)
                        refine c_seq (fun K24 hK24 => ?_)
                        exact (by
                          refine c_draw Up 18 [(0, true), (1, true), (2, true), (3, true), (4, true), (5, true), (6, true), (7, true), (8, true), (9, true), (10, true), (11, true), (12, true), (13, true), (14, true), (15, true), (16, true), (17, true)] (by kernel_rfl) (fun w25 hu => ⟨Up.refl _, ?_⟩)
                          replace hT := hT.up hu
                          replace hJ := hJ.up hu
                          replace hTT := hTT.up hu
                          replace U := U.tr hu
                          have SU := Up.refl w25
                          refine p_step (by exact rfl) (y_moveV (et (gS rfl (gS rfl (gS rfl g0))) rfl)) ?_
                          refine p_step (by exact rfl) (y_nil (et g0 rfl)) ?_
                          refine p_step (by exact rfl) (y_fld fld_218_1 (et g0 rfl)) ?_
                          refine p_step (by exact rfl) (y_load1 one_21 (et g0 rfl) (atS (hJ.cAt (by omega)))) ?_
                          refine p_step (by exact rfl) (y_lss (et g0 rfl) rfl) ?_
                          refine p_step (by exact rfl) (y_moveV (et g0 rfl)) ?_
                          refine gsplitP (i := 163) g0 (fun q26 => ?_) (fun q26 => ?_)
                          · skip
                            exact absurd (of_decide_eq_true q26) (by omega)
                          · skip
                            refine p_gstep (j := 5) (t := 163) (by exact rfl) (by exact rfl) (by exact rfl) (et g0 rfl) rfl (y_moveV (et (gS rfl (gS rfl (gS rfl (gS rfl (gS rfl (gS rfl (gS rfl (gS rfl (gS rfl (gS rfl g0)))))))))) rfl)) ?_
                            refine p_gstep (j := 5) (t := 163) (by exact rfl) (by exact rfl) (by exact rfl) (et (gS rfl g0) rfl) rfl (y_nil (et g0 rfl)) ?_
                            refine p_gstep (j := 5) (t := 163) (by exact rfl) (by exact rfl) (by exact rfl) (et (gS rfl (gS rfl g0)) rfl) rfl (y_fld fld_218_1 (et g0 rfl)) ?_
                            refine p_gstep (j := 5) (t := 163) (by exact rfl) (by exact rfl) (by exact rfl) (et (gS rfl (gS rfl (gS rfl g0))) rfl) rfl (y_load1 one_21 (et g0 rfl) (atS (hJ.cAt (by omega)))) ?_
                            refine p_gstep (j := 5) (t := 163) (by exact rfl) (by exact rfl) (by exact rfl) (et (gS rfl (gS rfl (gS rfl (gS rfl g0)))) rfl) rfl (y_conv Hvaa.underlying21 Hvaa.underlying3 (et g0 rfl) (wrapIN ?_)) ?_
                            omega
                            refine p_gstep (j := 5) (t := 163) (by exact rfl) (by exact rfl) (by exact rfl) (et (gS rfl (gS rfl (gS rfl (gS rfl (gS rfl g0))))) rfl) rfl (y_moveV (et (gS rfl (gS rfl (gS rfl (gS rfl (gS rfl (gS rfl (gS rfl (gS rfl (gS rfl (gS rfl (gS rfl (gS rfl (gS rfl (gS rfl g0)))))))))))))) rfl)) ?_
                            refine p_gstep (j := 5) (t := 163) (by exact rfl) (by exact rfl) (by exact rfl) (et (gS rfl (gS rfl (gS rfl (gS rfl (gS rfl (gS rfl g0)))))) rfl) rfl (y_nil (et g0 rfl)) ?_
                            refine p_gstep (j := 5) (t := 163) (by exact rfl) (by exact rfl) (by exact rfl) (et (gS rfl (gS rfl (gS rfl (gS rfl (gS rfl (gS rfl (gS rfl g0))))))) rfl) rfl (y_fld fld_84_9 (et g0 rfl)) ?_
                            refine p_gstep (j := 5) (t := 163) (by exact rfl) (by exact rfl) (by exact rfl) (et (gS rfl (gS rfl (gS rfl (gS rfl (gS rfl (gS rfl (gS rfl (gS rfl g0)))))))) rfl) rfl (y_load1 one_81 (et g0 rfl) (atS (hT.vl.c1 hTT.sl rfl))) ?_
                            refine p_gstep (j := 5) (t := 163) (by exact rfl) (by exact rfl) (by exact rfl) (et (gS rfl (gS rfl (gS rfl (gS rfl (gS rfl (gS rfl (gS rfl (gS rfl (gS rfl g0))))))))) rfl) rfl (y_len Hvaa.underlying81 (et g0 rfl)) ?_
                            refine p_gstep (j := 5) (t := 163) (by exact rfl) (by exact rfl) (by exact rfl) (et (gS rfl (gS rfl (gS rfl (gS rfl (gS rfl (gS rfl (gS rfl (gS rfl (gS rfl (gS rfl g0)))))))))) rfl) rfl (y_geq (et (gS rfl (gS rfl (gS rfl (gS rfl (gS rfl g0))))) rfl) (et g0 rfl)) ?_
                            refine p_step (by exact rfl) (y_pickF (et (gS rfl (gS rfl (gS rfl (gS rfl (gS rfl (gS rfl (gS rfl (gS rfl (gS rfl (gS rfl (gS rfl g0))))))))))) rfl) (et g0 rfl)) ?_
                            refine p_nil ?_
                            refine hK24 _ _ ?_
                            refine fg3 1 0 175 (gS rfl (gS rfl (gS rfl (gS rfl (gS rfl (gS rfl (gS rfl (gS rfl (gS rfl (gS rfl (gS rfl (gS rfl (gS rfl (gS rfl (gS rfl (gS rfl (gS rfl (gS rfl (gS rfl (gS rfl (gS rfl (gS rfl g0)))))))))))))))))))))) (gS rfl (gS rfl (gS rfl (gS rfl (gS rfl (gS rfl (gS rfl (gS rfl (gS rfl (gS rfl (gS rfl (gS rfl (gS rfl (gS rfl (gS rfl (gS rfl (gS rfl (gS rfl (gS rfl (gS rfl (gS rfl g0))))))))))))))))))))) g0 (fun g => ?_)
                            refine c_false (et g0 rfl) (by (exact decide_eq_false (by omega))) ?_
                            refine c_skip ?_
                            refine hK23 _ _ ?_
                            refine fg2 1 0 (gS rfl (gS rfl g0)) (gS rfl g0) (fun g => ?_)
                            exact (by
                              refine c_draw Up 14 [(0, true), (1, true), (2, true), (3, true), (4, true), (5, true), (6, true), (7, true), (8, true), (9, true), (10, true), (11, true), (12, true), (13, true), (14, false)] (by kernel_rfl) (fun w28 hu => ⟨Up.refl _, ?_⟩)
                              replace hT := hT.up hu
                              replace hJ := hJ.up hu
                              replace hTT := hTT.up hu
                              replace U := U.tr hu
                              have SU := Up.refl w28
                              refine p_step (by exact rfl) (y_moveV (et g0 rfl)) ?_
                              refine p_step (by exact rfl) (y_nil (et g0 rfl)) ?_
                              refine p_step (by exact rfl) (y_fld fld_84_9 (et g0 rfl)) ?_
                              refine p_step (by exact rfl) (y_load1 one_81 (et g0 rfl) (atS (hT.vl.c1 hTT.sl rfl))) ?_
                              refine p_step (by exact rfl) (y_moveV (et (gS rfl (gS rfl (gS rfl (gS rfl (gS rfl g0))))) rfl)) ?_
                              refine p_step (by exact rfl) (y_nil (et g0 rfl)) ?_
                              refine p_step (by exact rfl) (y_fld fld_218_1 (et g0 rfl)) ?_
                              refine p_step (by exact rfl) (y_load1 one_21 (et g0 rfl) (atS (hJ.cAt (by omega)))) ?_
                              refine p_step (by exact rfl) (y_moveV (et (gS rfl (gS rfl (gS rfl (gS rfl (gS rfl (gS rfl (gS rfl (gS rfl (gS rfl g0))))))))) rfl)) ?_
                              refine p_step (by exact rfl) (y_nil (et g0 rfl)) ?_
                              refine p_step (by exact rfl) (y_fld fld_218_3 (et g0 rfl)) ?_
                              refine p_step (by exact rfl) (y_loadR agg_65 sz_65 (et g0 rfl) rfl (atSR (hJ.rW (by omega)))) ?_
                              refine p_step (by exact rfl) (y_idxS Hvaa.underlying81 sz_430 (et (gS rfl (gS rfl (gS rfl (gS rfl (gS rfl (gS rfl (gS rfl (gS rfl g0)))))))) rfl) (et (gS rfl (gS rfl (gS rfl (gS rfl g0)))) rfl) ?_ ?_) ?_
                              omega
                              omega
                              refine p_step (by exact rfl) (y_fld fld_430_2 (et g0 rfl)) ?_
                              refine p_effN (by exact rfl) (e_store sz_65 (et g0 rfl) (cellsV (et (gS rfl (gS rfl g0)) rfl) rfl) rfl (by exact one_uL _) hTT.kA (by have h9 := hfit; omega)) (fun v29 w29 h29 => ?_)
                              obtain ⟨rfl, x29⟩ := h29
                              have hv29 := hT.setT hTT (j := 5) (y := { x9 with val := e.w }) (by omega) x29 rfl (Nat.le_of_ble_eq_true rfl) ⟨hok.acct, hok.key, hke.w⟩
                              replace hT := hv29
                              replace U := U.cc x29.ch (by intro b hb; exact .inl trivial)
                              refine ⟨.inl rfl, ?_⟩
                              refine p_nil ?_
                              refine hQ4 _ _ _ (in_normal ?_)
                              refine hK2 _ _ ?_
                              refine fg0 (fun g => ?_)
                              refine c_seq (fun K30 hK30 => ?_)
                              exact (by
                                refine c_region ?_
                                refine l_step y_assignC ?_
                                refine l_nil ?_
                                refine hK30 _ _ ?_
                                refine c_ret ?_
                                repeat with_reducible refine then_ret ?_
                                refine ret1 rfl (res_tmp (et g0 rfl)) ?_
                                refine ⟨rfl, col, cs, ?_⟩
                                rw [u_8 hk, mod_set hx9]
                                exact hT))))))))))))))
theorem v_undo6 {w : World} {H : Store} {col : Nat → Nat} {bc : Nat} {cs : Array Value} {V : EV} (hV : VL w H col bc cs V) (ho : VOk V) {i : Nat} {e : EEnt} {bj oj : Nat} {cj : Array Value} {vb : Value} (hJ : JAt w H col V i e bj cj vb) (hoj : oj = i * 9) (hE : EIn V e) (hk : e.kind = 6) :
    Ret 399 [.pointer (some ⟨bc, 2435, none⟩), .pointer (some ⟨bj, oj, none⟩)] w (fun v w' => v = .bool true ∧ ∃ col' cs', VT w H col bc cs w' H col' cs' (undoE V e)) := by
  have hT := VT.refl hV
  have hnw := hV.new
  have hcC := hV.colC
  have hml := ho.bd.marks
  have hjc := hJ.col
  have hke := hJ.ok
  have hkb := hke.kind
  refine enter (n := 221) Hvaa.func399 rfl rfl (Nat.le_of_ble_eq_true rfl) ?_
  have U : Ch (fun _ => True) w w := Ch.refl _ w
  refine c_seq (fun K1 hK1 => ?_)
  exact (by
    refine c_region ?_
    refine l_step y_assignC ?_
    refine l_nil ?_
    refine hK1 _ _ ?_
    refine fg2 1 0 (gS rfl (gS rfl g0)) (gS rfl g0) (fun g => ?_)
    refine c_seq (fun K2 hK2 => ?_)
    refine c_seq (fun K3 hK3 => ?_)
    exact (by
      refine c_region ?_
      refine l_step (y_moveV (et (gS rfl g0) rfl)) ?_
      refine l_step (y_nil (et g0 rfl)) ?_
      refine l_step (y_fld fld_218_0 (et g0 rfl)) ?_
      refine l_step (y_load1 one_5 (et g0 rfl) (at1 (hJ.cKind (by omega)))) ?_
      refine l_nil ?_
      refine hK3 _ _ ?_
      refine fg3 1 0 9 (gS rfl (gS rfl (gS rfl (gS rfl (gS rfl g0))))) (gS rfl (gS rfl (gS rfl (gS rfl g0)))) g0 (fun g => ?_)
      refine c_block (fun Q4 hQ4 => ?_)
      refine c_seq (fun K5 hK5 => ?_)
      refine c_seq (fun K6 hK6 => ?_)
      exact (by
        refine c_region ?_
        refine l_step (y_eql (et g0 rfl) rfl) ?_
        refine l_step (y_assignV (et g0 rfl)) ?_
        refine l_nil ?_
        refine hK6 _ _ ?_
        refine fg4 1 0 9 10 (gS rfl (gS rfl (gS rfl (gS rfl g0)))) (gS rfl (gS rfl (gS rfl g0))) (gS rfl (gS rfl g0)) g0 (fun g => ?_)
        refine c_false (et g0 rfl) (by (exact decide_eq_false (by omega))) ?_
        refine c_seq (fun K8 hK8 => ?_)
        exact (by
          refine c_region ?_
          refine l_step (y_eql (et (gS rfl g0) rfl) rfl) ?_
          refine l_step (y_assignV (et g0 rfl)) ?_
          refine l_nil ?_
          refine hK8 _ _ ?_
          refine fg4 1 0 9 10 (gS rfl (gS rfl (gS rfl (gS rfl (gS rfl g0))))) (gS rfl (gS rfl (gS rfl (gS rfl g0)))) (gS rfl (gS rfl (gS rfl g0))) g0 (fun g => ?_)
          refine c_false (et g0 rfl) (by (exact decide_eq_false (by omega))) ?_
          refine c_seq (fun K10 hK10 => ?_)
          exact (by
            refine c_region ?_
            refine l_step (y_eql (et (gS rfl g0) rfl) rfl) ?_
            refine l_step (y_assignV (et g0 rfl)) ?_
            refine l_nil ?_
            refine hK10 _ _ ?_
            refine fg4 1 0 9 10 (gS rfl (gS rfl (gS rfl (gS rfl (gS rfl g0))))) (gS rfl (gS rfl (gS rfl (gS rfl g0)))) (gS rfl (gS rfl (gS rfl g0))) g0 (fun g => ?_)
            refine c_false (et g0 rfl) (by (exact decide_eq_false (by omega))) ?_
            refine c_seq (fun K12 hK12 => ?_)
            exact (by
              refine c_region ?_
              refine l_step (y_eql (et (gS rfl g0) rfl) rfl) ?_
              refine l_step (y_assignV (et g0 rfl)) ?_
              refine l_nil ?_
              refine hK12 _ _ ?_
              refine fg4 1 0 9 10 (gS rfl (gS rfl (gS rfl (gS rfl (gS rfl g0))))) (gS rfl (gS rfl (gS rfl (gS rfl g0)))) (gS rfl (gS rfl (gS rfl g0))) g0 (fun g => ?_)
              refine c_false (et g0 rfl) (by (exact decide_eq_false (by omega))) ?_
              refine c_seq (fun K14 hK14 => ?_)
              exact (by
                refine c_region ?_
                refine l_step (y_eql (et (gS rfl g0) rfl) rfl) ?_
                refine l_step (y_assignV (et g0 rfl)) ?_
                refine l_nil ?_
                refine hK14 _ _ ?_
                refine fg4 1 0 9 10 (gS rfl (gS rfl (gS rfl (gS rfl (gS rfl g0))))) (gS rfl (gS rfl (gS rfl (gS rfl g0)))) (gS rfl (gS rfl (gS rfl g0))) g0 (fun g => ?_)
                refine c_false (et g0 rfl) (by (exact decide_eq_false (by omega))) ?_
                exact (by
                  refine c_region ?_
                  refine l_step (y_eql (et (gS rfl g0) rfl) rfl) ?_
                  refine l_step (y_assignV (et g0 rfl)) ?_
                  refine l_nil ?_
                  refine hK5 _ _ ?_
                  refine fg4 1 0 9 10 (gS rfl (gS rfl (gS rfl (gS rfl (gS rfl g0))))) (gS rfl (gS rfl (gS rfl (gS rfl g0)))) (gS rfl (gS rfl (gS rfl g0))) g0 (fun g => ?_)
                  refine c_false (et g0 rfl) (by (first | rfl | exact decide_eq_false (by omega))) ?_
                  refine c_seq (fun K17 hK17 => ?_)
                  refine c_seq (fun K18 hK18 => ?_)
                  exact (by
                    refine c_region ?_
                    refine l_step (y_eql (et (gS rfl g0) rfl) rfl) ?_
                    refine l_step (y_assignV (et g0 rfl)) ?_
                    refine l_nil ?_
                    refine hK18 _ _ ?_
                    refine fg4 1 0 9 102 (gS rfl (gS rfl (gS rfl (gS rfl (gS rfl g0))))) (gS rfl (gS rfl (gS rfl (gS rfl g0)))) (gS rfl (gS rfl (gS rfl g0))) g0 (fun g => ?_)
                    refine c_false (et g0 rfl) (by (exact decide_eq_false (by omega))) ?_
                    exact (by
                      refine c_region ?_
                      refine l_step (y_eql (et (gS rfl g0) rfl) rfl) ?_
                      refine l_step (y_assignV (et g0 rfl)) ?_
                      refine l_nil ?_
                      refine hK17 _ _ ?_
                      refine fg4 1 0 9 102 (gS rfl (gS rfl (gS rfl (gS rfl (gS rfl g0))))) (gS rfl (gS rfl (gS rfl (gS rfl g0)))) (gS rfl (gS rfl (gS rfl g0))) g0 (fun g => ?_)
                      refine c_false (et g0 rfl) (by (first | rfl | exact decide_eq_false (by omega))) ?_
                      refine c_seq (fun K21 hK21 => ?_)
                      exact (by
                        refine c_region ?_
                        refine l_step (y_eql (et (gS rfl g0) rfl) rfl) ?_
                        refine l_step (y_assignV (et g0 rfl)) ?_
                        refine l_nil ?_
                        refine hK21 _ _ ?_
                        refine fg4 1 0 9 156 (gS rfl (gS rfl (gS rfl (gS rfl (gS rfl g0))))) (gS rfl (gS rfl (gS rfl (gS rfl g0)))) (gS rfl (gS rfl (gS rfl g0))) g0 (fun g => ?_)
                        refine c_false (et g0 rfl) (by (exact decide_eq_false (by omega))) ?_
                        refine c_seq (fun K23 hK23 => ?_)
                        exact (by
                          refine c_region ?_
                          refine l_step (y_eql (et (gS rfl g0) rfl) rfl) ?_
                          refine l_step (y_assignV (et g0 rfl)) ?_
                          refine l_nil ?_
                          refine hK23 _ _ ?_
                          refine fg4 1 0 9 190 (gS rfl (gS rfl (gS rfl (gS rfl (gS rfl g0))))) (gS rfl (gS rfl (gS rfl (gS rfl g0)))) (gS rfl (gS rfl (gS rfl g0))) g0 (fun g => ?_)
                          refine c_true (et g0 rfl) (by (exact decide_eq_true (by omega))) ?_
                          exact (by
                            refine c_region ?_
                            refine l_step (y_moveV (et (gS rfl (gS rfl g0)) rfl)) ?_
                            refine l_step (y_moveV (et (gS rfl (gS rfl (gS rfl (gS rfl g0)))) rfl)) ?_
                            refine l_step (y_nil (et g0 rfl)) ?_
                            refine l_step (y_fld fld_218_2 (et g0 rfl)) ?_
                            refine l_step (y_load1 one_26 (et g0 rfl) (at1 (hJ.cN (by omega)))) ?_
                            refine l_step (y_nil (et (gS rfl (gS rfl (gS rfl (gS rfl g0)))) rfl)) ?_
                            refine l_step (y_fld fld_84_7 (et g0 rfl)) ?_
                            refine l_effN (e_store sz_26 (et g0 rfl) (cellsV (et (gS rfl (gS rfl g0)) rfl) rfl) rfl (by intro v hv; simp at hv; subst hv; rfl) hT.vl.kC (by rw [hT.vl.size]; exact Nat.le_of_ble_eq_true rfl)) (fun v25 w25 h25 => ?_)
                            obtain ⟨rfl, x25⟩ := h25
                            have hv25 := hT.stRef hml x25
                            replace hJ := hJ.ch x25.ch (by intro hm; first | omega | (subst hm; omega))
                            replace hT := hv25
                            replace U := U.cc x25.ch (by intro b hb; exact .inl trivial)
                            refine l_nil ?_
                            refine hQ4 _ _ _ (in_normal ?_)
                            refine hK2 _ _ ?_
                            refine fg0 (fun g => ?_)
                            refine c_seq (fun K26 hK26 => ?_)
                            exact (by
                              refine c_region ?_
                              refine l_step y_assignC ?_
                              refine l_nil ?_
                              refine hK26 _ _ ?_
                              refine c_ret ?_
                              repeat with_reducible refine then_ret ?_
                              refine ret1 rfl (res_tmp (et g0 rfl)) ?_
                              exact ⟨rfl, col, _, by rw [u_6 hk]; exact hT⟩))))))))))))))
theorem v_undo7 {w : World} {H : Store} {col : Nat → Nat} {bc : Nat} {cs : Array Value} {V : EV} (hV : VL w H col bc cs V) (ho : VOk V) {i : Nat} {e : EEnt} {bj oj : Nat} {cj : Array Value} {vb : Value} (hJ : JAt w H col V i e bj cj vb) (hoj : oj = i * 9) (hE : EIn V e) (hk : e.kind = 7) (hlg : e.kind = 7 → V.logs ≠ []) :
    Ret 399 [.pointer (some ⟨bc, 2435, none⟩), .pointer (some ⟨bj, oj, none⟩)] w (fun v w' => v = .bool true ∧ ∃ col' cs', VT w H col bc cs w' H col' cs' (undoE V e)) := by
  have hT := VT.refl hV
  have hnw := hV.new
  have hcC := hV.colC
  have hml := ho.bd.marks
  have hjc := hJ.col
  have hke := hJ.ok
  have hkb := hke.kind
  have hlb := ho.bd.logs
  have hn0 : 0 < V.logs.length := List.length_pos_iff.2 (hlg hk)
  obtain ⟨bl9, cl9, hsl, hcl9⟩ := hV.logAt (hlg hk)
  refine enter (n := 221) Hvaa.func399 rfl rfl (Nat.le_of_ble_eq_true rfl) ?_
  have U : Ch (fun _ => True) w w := Ch.refl _ w
  refine c_seq (fun K1 hK1 => ?_)
  exact (by
    refine c_region ?_
    refine l_step y_assignC ?_
    refine l_nil ?_
    refine hK1 _ _ ?_
    refine fg2 1 0 (gS rfl (gS rfl g0)) (gS rfl g0) (fun g => ?_)
    refine c_seq (fun K2 hK2 => ?_)
    refine c_seq (fun K3 hK3 => ?_)
    exact (by
      refine c_region ?_
      refine l_step (y_moveV (et (gS rfl g0) rfl)) ?_
      refine l_step (y_nil (et g0 rfl)) ?_
      refine l_step (y_fld fld_218_0 (et g0 rfl)) ?_
      refine l_step (y_load1 one_5 (et g0 rfl) (at1 (hJ.cKind (by omega)))) ?_
      refine l_nil ?_
      refine hK3 _ _ ?_
      refine fg3 1 0 9 (gS rfl (gS rfl (gS rfl (gS rfl (gS rfl g0))))) (gS rfl (gS rfl (gS rfl (gS rfl g0)))) g0 (fun g => ?_)
      refine c_block (fun Q4 hQ4 => ?_)
      refine c_seq (fun K5 hK5 => ?_)
      refine c_seq (fun K6 hK6 => ?_)
      exact (by
        refine c_region ?_
        refine l_step (y_eql (et g0 rfl) rfl) ?_
        refine l_step (y_assignV (et g0 rfl)) ?_
        refine l_nil ?_
        refine hK6 _ _ ?_
        refine fg4 1 0 9 10 (gS rfl (gS rfl (gS rfl (gS rfl g0)))) (gS rfl (gS rfl (gS rfl g0))) (gS rfl (gS rfl g0)) g0 (fun g => ?_)
        refine c_false (et g0 rfl) (by (exact decide_eq_false (by omega))) ?_
        refine c_seq (fun K8 hK8 => ?_)
        exact (by
          refine c_region ?_
          refine l_step (y_eql (et (gS rfl g0) rfl) rfl) ?_
          refine l_step (y_assignV (et g0 rfl)) ?_
          refine l_nil ?_
          refine hK8 _ _ ?_
          refine fg4 1 0 9 10 (gS rfl (gS rfl (gS rfl (gS rfl (gS rfl g0))))) (gS rfl (gS rfl (gS rfl (gS rfl g0)))) (gS rfl (gS rfl (gS rfl g0))) g0 (fun g => ?_)
          refine c_false (et g0 rfl) (by (exact decide_eq_false (by omega))) ?_
          refine c_seq (fun K10 hK10 => ?_)
          exact (by
            refine c_region ?_
            refine l_step (y_eql (et (gS rfl g0) rfl) rfl) ?_
            refine l_step (y_assignV (et g0 rfl)) ?_
            refine l_nil ?_
            refine hK10 _ _ ?_
            refine fg4 1 0 9 10 (gS rfl (gS rfl (gS rfl (gS rfl (gS rfl g0))))) (gS rfl (gS rfl (gS rfl (gS rfl g0)))) (gS rfl (gS rfl (gS rfl g0))) g0 (fun g => ?_)
            refine c_false (et g0 rfl) (by (exact decide_eq_false (by omega))) ?_
            refine c_seq (fun K12 hK12 => ?_)
            exact (by
              refine c_region ?_
              refine l_step (y_eql (et (gS rfl g0) rfl) rfl) ?_
              refine l_step (y_assignV (et g0 rfl)) ?_
              refine l_nil ?_
              refine hK12 _ _ ?_
              refine fg4 1 0 9 10 (gS rfl (gS rfl (gS rfl (gS rfl (gS rfl g0))))) (gS rfl (gS rfl (gS rfl (gS rfl g0)))) (gS rfl (gS rfl (gS rfl g0))) g0 (fun g => ?_)
              refine c_false (et g0 rfl) (by (exact decide_eq_false (by omega))) ?_
              refine c_seq (fun K14 hK14 => ?_)
              exact (by
                refine c_region ?_
                refine l_step (y_eql (et (gS rfl g0) rfl) rfl) ?_
                refine l_step (y_assignV (et g0 rfl)) ?_
                refine l_nil ?_
                refine hK14 _ _ ?_
                refine fg4 1 0 9 10 (gS rfl (gS rfl (gS rfl (gS rfl (gS rfl g0))))) (gS rfl (gS rfl (gS rfl (gS rfl g0)))) (gS rfl (gS rfl (gS rfl g0))) g0 (fun g => ?_)
                refine c_false (et g0 rfl) (by (exact decide_eq_false (by omega))) ?_
                exact (by
                  refine c_region ?_
                  refine l_step (y_eql (et (gS rfl g0) rfl) rfl) ?_
                  refine l_step (y_assignV (et g0 rfl)) ?_
                  refine l_nil ?_
                  refine hK5 _ _ ?_
                  refine fg4 1 0 9 10 (gS rfl (gS rfl (gS rfl (gS rfl (gS rfl g0))))) (gS rfl (gS rfl (gS rfl (gS rfl g0)))) (gS rfl (gS rfl (gS rfl g0))) g0 (fun g => ?_)
                  refine c_false (et g0 rfl) (by (first | rfl | exact decide_eq_false (by omega))) ?_
                  refine c_seq (fun K17 hK17 => ?_)
                  refine c_seq (fun K18 hK18 => ?_)
                  exact (by
                    refine c_region ?_
                    refine l_step (y_eql (et (gS rfl g0) rfl) rfl) ?_
                    refine l_step (y_assignV (et g0 rfl)) ?_
                    refine l_nil ?_
                    refine hK18 _ _ ?_
                    refine fg4 1 0 9 102 (gS rfl (gS rfl (gS rfl (gS rfl (gS rfl g0))))) (gS rfl (gS rfl (gS rfl (gS rfl g0)))) (gS rfl (gS rfl (gS rfl g0))) g0 (fun g => ?_)
                    refine c_false (et g0 rfl) (by (exact decide_eq_false (by omega))) ?_
                    exact (by
                      refine c_region ?_
                      refine l_step (y_eql (et (gS rfl g0) rfl) rfl) ?_
                      refine l_step (y_assignV (et g0 rfl)) ?_
                      refine l_nil ?_
                      refine hK17 _ _ ?_
                      refine fg4 1 0 9 102 (gS rfl (gS rfl (gS rfl (gS rfl (gS rfl g0))))) (gS rfl (gS rfl (gS rfl (gS rfl g0)))) (gS rfl (gS rfl (gS rfl g0))) g0 (fun g => ?_)
                      refine c_false (et g0 rfl) (by (first | rfl | exact decide_eq_false (by omega))) ?_
                      refine c_seq (fun K21 hK21 => ?_)
                      exact (by
                        refine c_region ?_
                        refine l_step (y_eql (et (gS rfl g0) rfl) rfl) ?_
                        refine l_step (y_assignV (et g0 rfl)) ?_
                        refine l_nil ?_
                        refine hK21 _ _ ?_
                        refine fg4 1 0 9 156 (gS rfl (gS rfl (gS rfl (gS rfl (gS rfl g0))))) (gS rfl (gS rfl (gS rfl (gS rfl g0)))) (gS rfl (gS rfl (gS rfl g0))) g0 (fun g => ?_)
                        refine c_false (et g0 rfl) (by (exact decide_eq_false (by omega))) ?_
                        refine c_seq (fun K23 hK23 => ?_)
                        exact (by
                          refine c_region ?_
                          refine l_step (y_eql (et (gS rfl g0) rfl) rfl) ?_
                          refine l_step (y_assignV (et g0 rfl)) ?_
                          refine l_nil ?_
                          refine hK23 _ _ ?_
                          refine fg4 1 0 9 190 (gS rfl (gS rfl (gS rfl (gS rfl (gS rfl g0))))) (gS rfl (gS rfl (gS rfl (gS rfl g0)))) (gS rfl (gS rfl (gS rfl g0))) g0 (fun g => ?_)
                          refine c_false (et g0 rfl) (by (exact decide_eq_false (by omega))) ?_
                          refine c_seq (fun K25 hK25 => ?_)
                          exact (by
                            refine c_region ?_
                            refine l_step (y_eql (et (gS rfl g0) rfl) rfl) ?_
                            refine l_step (y_assignV (et g0 rfl)) ?_
                            refine l_nil ?_
                            refine hK25 _ _ ?_
                            refine fg2 0 199 (gS rfl (gS rfl (gS rfl (gS rfl g0)))) g0 (fun g => ?_)
                            refine c_true (et g0 rfl) (by (exact decide_eq_true (by omega))) ?_
                            refine c_seq (fun K27 hK27 => ?_)
                            refine c_seq (fun K28 hK28 => ?_)
                            exact (by
                              refine c_region ?_
                              refine l_step (y_moveV (et (gS rfl g0) rfl)) ?_
                              refine l_step (y_nil (et g0 rfl)) ?_
                              refine l_step (y_fld fld_84_8 (et g0 rfl)) ?_
                              refine l_step (y_load1 one_42 (et g0 rfl) (at1 (hT.vl.c1 hsl rfl))) ?_
                              refine l_step (y_len Hvaa.underlying42 (et g0 rfl)) ?_
                              refine l_step (y_eql (et g0 rfl) rfl) ?_
                              refine l_nil ?_
                              refine hK28 _ _ ?_
                              refine fg2 0 206 (gS rfl (gS rfl (gS rfl (gS rfl (gS rfl (gS rfl (gS rfl g0))))))) g0 (fun g => ?_)
                              refine c_false (et g0 rfl) (by (exact decide_eq_false (by omega))) ?_
                              refine c_skip ?_
                              refine hK27 _ _ ?_
                              refine fg1 0 (gS rfl g0) (fun g => ?_)
                              exact (by
                                refine c_draw Up 14 [(0, true), (1, true), (2, true), (3, true), (4, true), (5, true), (6, true), (7, true), (8, true), (9, true), (10, true), (11, true), (12, true), (13, true), (14, false)] (by kernel_rfl) (fun w30 hu => ⟨Up.refl _, ?_⟩)
                                replace hT := hT.up hu
                                replace hJ := hJ.up hu
                                replace U := U.tr hu
                                have SU := Up.refl w30
                                refine p_step (by exact rfl) (y_moveV (et g0 rfl)) ?_
                                refine p_step (by exact rfl) (y_moveV (et (gS rfl g0) rfl)) ?_
                                refine p_step (by exact rfl) (y_nil (et g0 rfl)) ?_
                                refine p_step (by exact rfl) (y_fld fld_84_8 (et g0 rfl)) ?_
                                refine p_step (by exact rfl) (y_load1 one_42 (et g0 rfl) (atS (hT.vl.c1 hsl rfl))) ?_
                                refine p_step (by exact rfl) (y_moveV (et (gS rfl (gS rfl (gS rfl (gS rfl (gS rfl g0))))) rfl)) ?_
                                refine p_step (by exact rfl) (y_nil (et g0 rfl)) ?_
                                refine p_step (by exact rfl) (y_fld fld_84_8 (et g0 rfl)) ?_
                                refine p_step (by exact rfl) (y_load1 one_42 (et g0 rfl) (atS (hT.vl.c1 hsl rfl))) ?_
                                refine p_step (by exact rfl) (y_len Hvaa.underlying42 (et g0 rfl)) ?_
                                refine p_step (by exact rfl) (y_sub (et g0 rfl) rfl (subIN (y := 1) ?_ ?_)) ?_
                                omega
                                omega
                                refine p_step (by exact rfl) (y_slS010n Hvaa.underlying42 sz_131 (et (gS rfl (gS rfl (gS rfl (gS rfl (gS rfl (gS rfl g0)))))) rfl) (et g0 rfl) ?_) ?_
                                omega
                                refine p_step (by exact rfl) (y_nil (et (gS rfl (gS rfl (gS rfl (gS rfl (gS rfl (gS rfl (gS rfl (gS rfl (gS rfl (gS rfl (gS rfl g0))))))))))) rfl)) ?_
                                refine p_step (by exact rfl) (y_fld fld_84_8 (et g0 rfl)) ?_
                                refine p_effN (by exact rfl) (e_store sz_42 (et g0 rfl) (cellsV (et (gS rfl (gS rfl g0)) rfl) rfl) rfl (by intro v hv; simp at hv; subst hv; rfl) hT.vl.kC (by rw [hT.vl.size]; exact Nat.le_of_ble_eq_true rfl)) (fun v31 w31 h31 => ?_)
                                obtain ⟨rfl, x31⟩ := h31
                                obtain ⟨col1, hv31, hq31⟩ := (hT.cutL hsl (Nat.sub_le _ 1)).layL hml x31
                                replace hJ := hJ.ch x31.ch (by intro hm; first | omega | (subst hm; omega))
                                replace hT := hv31
                                replace U := U.cc x31.ch (by intro b hb; exact .inl trivial)
                                refine ⟨.inl rfl, ?_⟩
                                refine p_nil ?_
                                refine hQ4 _ _ _ (in_normal ?_)
                                refine hK2 _ _ ?_
                                refine fg0 (fun g => ?_)
                                refine c_seq (fun K32 hK32 => ?_)
                                exact (by
                                  refine c_region ?_
                                  refine l_step y_assignC ?_
                                  refine l_nil ?_
                                  refine hK32 _ _ ?_
                                  refine c_ret ?_
                                  repeat with_reducible refine then_ret ?_
                                  refine ret1 rfl (res_tmp (et g0 rfl)) ?_
                                  exact ⟨rfl, col1, _, by rw [u_7 hk, List.dropLast_eq_take]; exact hT⟩))))))))))))))))
theorem v_undo {w : World} {H : Store} {col : Nat → Nat} {bc : Nat} {cs : Array Value} {V : EV} (hV : VL w H col bc cs V) (ho : VOk V) {i : Nat} {e : EEnt} {bj oj : Nat} {cj : Array Value} {vb : Value} (hJ : JAt w H col V i e bj cj vb) (hoj : oj = i * 9) (hE : EIn V e) (hlg : e.kind = 7 → V.logs ≠ []) : Ret 399 [.pointer (some ⟨bc, 2435, none⟩), .pointer (some ⟨bj, oj, none⟩)] w (fun v w' => v = .bool true ∧ ∃ col' cs', VT w H col bc cs w' H col' cs' (undoE V e)) := by
  have hk := hJ.ok.kind
  rcases (show e.kind = 0 ∨ e.kind = 1 ∨ e.kind = 2 ∨ e.kind = 3 ∨ e.kind = 4 ∨ e.kind = 5 ∨ e.kind = 6 ∨ e.kind = 7 ∨ e.kind = 8 ∨ e.kind = 9 ∨ e.kind = 10 by omega) with k | k | k | k | k | k | k | k | k | k | k
  · exact v_undo0 hV ho hJ hoj hE k
  · exact v_undo1 hV ho hJ hoj hE k
  · exact v_undo2 hV ho hJ hoj hE k
  · exact v_undo3 hV ho hJ hoj hE k
  · exact v_undo4 hV ho hJ hoj hE k
  · exact v_undo5 hV ho hJ hoj hE k
  · exact v_undo6 hV ho hJ hoj hE k
  · exact v_undo7 hV ho hJ hoj hE k hlg
  · exact v_undo8 hV ho hJ hoj hE k
  · exact v_undo9 hV ho hJ hoj hE k
  · exact v_undo10 hV ho hJ hoj hE k
end Go.Proofs.YgvaawGreat
