import Derived.Test.YgvaawGreatYS
set_option maxRecDepth 100000
set_option maxHeartbeats 4000000
set_option linter.unusedSimpArgs false
set_option linter.unusedVariables false
namespace Go.Proofs.YgvaawGreat
open Go
theorem A160_pos : 0 < A160 := by decide
structure PA (H : Store) (c : List Value) (A : YAcct) : Prop where
  p : P_acct H c A
theorem PA.mono {H H' : Store} {c : List Value} {A : YAcct} (h : PA H c A) (hl : Le H H') : PA H' c A := ⟨mono_acct _ _ _ _ hl h.p⟩
theorem LV.mem {α : Type} {P : Cp α} {k : Nat} {H : Store} {v : Value} {xs : List α} (h : LV P k H v xs) {x : α} (hx : x ∈ xs) : ∃ c, P H c x := by
  obtain ⟨cs, h1, h2, h3⟩ := h.ex
  obtain ⟨i, hi, rfl⟩ := List.getElem_of_mem hx
  exact ⟨_, (h3 i cs[i] xs[i] (List.getElem?_eq_getElem (by omega)) (List.getElem?_eq_getElem hi)).2⟩
theorem acctAt_mem (l : List YAcct) (a : Nat) : acctAt l a ∈ l ∨ acctAt l a = noAcct a := by
  unfold acctAt
  cases h : l.find? (fun x => x.addr == a) with
  | none => exact .inr rfl
  | some x => exact .inl (List.mem_of_find?_eq_some h)
theorem slot_bd {H : Store} {v u : Value} {l : List YAcct} {a key : Nat} (h : LV P_acct 24 H v l) (n : NV H u (slotAt (acctAt l a).slots key)) : slotAt (acctAt l a).slots key < 256 ^ 32 := by
  rcases acctAt_mem l a with hm | hm
  · obtain ⟨c, _, _, _, _, _, _, _, _, _, hs, _⟩ := h.mem hm
    unfold slotAt
    cases hf : (acctAt l a).slots.find? (fun x => x.1 == key) with
    | none => decide
    | some x =>
      obtain ⟨c', _, _, _, _, _, _, hb⟩ := hs.mem (List.mem_of_find?_eq_some hf)
      exact bd_W hb
  · rw [hm]; exact (show 0 < 256 ^ 32 by decide)
theorem tri_bd {H : Store} {v u : Value} {l : List (Nat × Nat × Nat)} {a key : Nat} (h : LV P_tri 22 H v l) (n : NV H u (triAt l a key)) : triAt l a key < 256 ^ 32 := by
  unfold triAt
  cases hf : l.find? (fun x => x.1 == a && x.2.1 == key) with
  | none => decide
  | some x =>
    obtain ⟨c', _, _, _, _, _, _, _, hb⟩ := h.mem (List.mem_of_find?_eq_some hf)
    exact bd_W hb
theorem access_bd {H : Store} {u : Value} {l : List Nat} {a : Nat} (n : NV H u (accessN l a)) : accessN l a < 256 ^ 2 := by unfold accessN; split <;> decide
theorem exp_lt {e : Nat} (h : e < 256 ^ 32) : expN e < 256 ^ 2 := by
  have := nbytes_le (W_bd h)
  unfold expN
  exact Nat.lt_of_le_of_lt (m := 10 + 50 * 32) (by omega) (by decide)
theorem bd_mem {H : Store} {u : Value} {x a : Nat} (n : NV H u (memN x)) (h : x < 256 ^ a) (ha : 1 ≤ a) : memN x < 256 ^ (2 * a + 1) := by
  unfold memN
  have h1 : 3 * x < 256 ^ (1 + a) := bd_mul (a := 1) (show 3 < 256 ^ 1 by decide) h (Nat.le_refl _)
  have h2 : x * x / 512 < 256 ^ (a + a) := bd_div (bd_mul h h (Nat.le_refl _))
  exact bd_add h1 h2 (by omega)
theorem sent_bd {H : Store} {u : Value} {x y a : Nat} (n : NV H u (sentN x y)) (h : x < 256 ^ a) : sentN x y < 256 ^ a := by
  unfold sentN
  exact Nat.lt_of_le_of_lt (Nat.le_trans (Nat.min_le_right _ _) (Nat.sub_le _ _)) h
theorem LV.stk {H : Store} {a : Option Addr} {c n : Nat} {xs : List Nat} {w : World} (h : LV P_nat 1 H (.slice a n c) xs) (hw : Fz w H) {i : Nat} (hi : i < xs.length) : ∃ b o v, a = some ⟨b, o, none⟩ ∧ w.cell? ⟨b, o + i * 1, none⟩ = some v ∧ NV H v xs[i] ∧ xs[i] < W256 := by
  obtain ⟨b, o, r, e1, e2, e3, v, e4, e5, e6⟩ := h.row hw hi
  subst e4
  exact ⟨b, o, v, e1, e2.at0, e5, e6⟩
theorem yp_arg (bf o i c : Nat) (a : Option Addr) (fs : Array Value) (xs : List Nat) (w : World) (H : Store) (hF : Fz w H) (kF : Blk w bf fs) (hst : fs[o + 8]? = some (.slice a xs.length c)) (hS : LV P_nat 1 H (.slice a xs.length c) xs) (hn : xs.length < 2147483648) (hi : i < 2147483648) :
    Ret 63 [.pointer (some ⟨bf, o, none⟩), .int .i64 i] w (fun v w' => Up w w' ∧ NV H v (argN xs i) ∧ argN xs i < W256) := by
  refine enter (n := 26) Hvaa.func63 rfl rfl (Nat.le_of_ble_eq_true rfl) ?_
  have U := Up.refl w
  have G : Go (No) w H w H := Go.refl hF
  refine c_seq (fun K1 hK1 => ?_)
  exact (by
    refine c_region ?_
    refine l_step y_assignC ?_
    refine l_nil ?_
    refine hK1 _ _ ?_
    refine fg2 1 0 (gS rfl (gS rfl g0)) (gS rfl g0) (fun g => ?_)
    refine c_seq (fun K2 hK2 => ?_)
    refine c_seq (fun K3 hK3 => ?_)
    exact (by
      refine c_region ?_
      refine l_step (y_moveV (et (gS rfl g0) rfl)) ?_
      refine l_step (y_moveV (et (gS rfl g0) rfl)) ?_
      refine l_step (y_nil (et g0 rfl)) ?_
      refine l_step (y_fld fld_146_8 (et g0 rfl)) ?_
      refine l_step (y_load1 one_144 (et g0 rfl) (at1 (kF.cell hst))) ?_
      refine l_step (y_len Hvaa.underlying144 (et g0 rfl)) ?_
      refine l_step ((y_geq (et (gS rfl (gS rfl (gS rfl (gS rfl (gS rfl g0))))) rfl) (et g0 rfl)).to (dec_iff (show ((xs.length : Nat) : Int) ≤ (i : Nat) ↔ xs.length ≤ i by omega))) ?_
      refine l_nil ?_
      refine hK3 _ _ ?_
      refine fg3 1 0 11 (gS rfl (gS rfl (gS rfl (gS rfl (gS rfl (gS rfl (gS rfl (gS rfl g0)))))))) (gS rfl (gS rfl (gS rfl (gS rfl (gS rfl (gS rfl (gS rfl g0))))))) g0 (fun g => ?_)
      refine c_cond (et g0 rfl) (fun cB1 => ?_) (fun cB1 => ?_)
      · skip
        
        have hge := of_decide_eq_true cB1
        refine c_seq (fun K5 hK5 => ?_)
        exact (by
          refine c_region ?_
          refine l_step y_assignC ?_
          refine l_nil ?_
          refine hK5 _ _ ?_
          refine fg1 4 g0 (fun g => ?_)
          refine c_ret ?_
          repeat with_reducible refine then_ret ?_
          refine ret1 rfl (res_tmp (et g0 rfl)) ?_
          exact ⟨U, by rw [arg_out (by omega)]; exact ⟨NV.nil _, by decide⟩⟩)
      · skip
        
        have hge := of_decide_eq_false cB1
        refine c_skip ?_
        refine hK2 _ _ ?_
        refine fg2 1 0 (gS rfl (gS rfl g0)) (gS rfl g0) (fun g => ?_)
        refine c_seq (fun K6 hK6 => ?_)
        exact (by
          refine c_draw Up 15 [(0, true), (1, true), (2, true), (3, true), (4, true), (5, true), (6, true), (7, true), (8, true), (9, true), (10, true), (11, true), (12, true), (13, true), (14, true)] (by kernel_rfl) (fun w7 hu => ⟨Up.refl _, ?_⟩)
          replace G := G.tr (Go.ofUp hF hu)
          replace hF := hF.up hu
          replace kF := kF.up hu
          replace U := U.tr hu
          have SU := Up.refl w7
          refine p_step (by exact rfl) (y_moveV (et g0 rfl)) ?_
          refine p_step (by exact rfl) (y_nil (et g0 rfl)) ?_
          refine p_step (by exact rfl) (y_fld fld_146_8 (et g0 rfl)) ?_
          refine p_step (by exact rfl) (y_load1 one_144 (et g0 rfl) (atS (kF.cell hst))) ?_
          refine p_step (by exact rfl) (y_moveV (et (gS rfl (gS rfl (gS rfl (gS rfl g0)))) rfl)) ?_
          refine p_step (by exact rfl) (y_nil (et g0 rfl)) ?_
          refine p_step (by exact rfl) (y_fld fld_146_8 (et g0 rfl)) ?_
          refine p_step (by exact rfl) (y_load1 one_144 (et g0 rfl) (atS (kF.cell hst))) ?_
          refine p_step (by exact rfl) (y_len Hvaa.underlying144 (et g0 rfl)) ?_
          refine p_step (by exact rfl) (y_sub (et g0 rfl) rfl (subIN (y := 1) ?_ ?_)) ?_
          omega
          omega
          refine p_step (by exact rfl) (y_moveV (et (gS rfl (gS rfl (gS rfl (gS rfl (gS rfl (gS rfl (gS rfl (gS rfl (gS rfl (gS rfl (gS rfl g0))))))))))) rfl)) ?_
          refine p_step (by exact rfl) (y_sub (et (gS rfl g0) rfl) (et g0 rfl) (subIN ?_ ?_)) ?_
          omega
          omega
          obtain ⟨ba, oa, va, ha, hcel, hnv, hvb⟩ := hS.stk hF (i := xs.length - 1 - i) (by omega)
          refine p_step (by exact rfl) (y_idxSa ha Hvaa.underlying144 sz_95 (et (gS rfl (gS rfl (gS rfl (gS rfl (gS rfl (gS rfl (gS rfl (gS rfl g0)))))))) rfl) (et g0 rfl) ?_) ?_
          omega
          refine p_step (by exact rfl) (y_load1 one_95 (et g0 rfl) (atS hcel)) ?_
          refine p_step (by exact rfl) (y_assignV (et g0 rfl)) ?_
          refine p_nil ?_
          refine hK6 _ _ ?_
          refine fg1 4 g0 (fun g => ?_)
          refine c_ret ?_
          repeat with_reducible refine then_ret ?_
          refine ret1 rfl (res_tmp (et g0 rfl)) ?_
          exact ⟨U, by rw [arg_in (by omega)]; exact ⟨hnv, hvb⟩⟩)))
def opcN (f : YF) : Nat := f.code[f.pc]?.getD 0
theorem opc_lt {f : YF} {H : Store} {v : Value} (h : BV H v f.code) : opcN f < 256 := by
  unfold opcN
  cases hq : f.code[f.pc]? with
  | none => decide
  | some x => exact h.dig x (List.mem_of_getElem? hq)
theorem yp_opcode {w : World} {H : Store} (hF : Fz w H) (bf o : Nat) (fs : Array Value) (f : YF) (vm : Value) (kF : Blk w bf fs) (hf : FC H fs o f vm) :
    Ret 57 [.pointer (some ⟨bf, o, none⟩)] w (fun v w' => v = .int .u8 (opcN f : Nat) ∧ Up w w') := by
  obtain ⟨vpc, vgas, vval, voo, vol, ka, kc, ca, cc, ia, ic, svc, rF, rSe, rCa, rSv, hSv, hPc, hGa, hVa, hOo, hOl, hSt, hCo, hIn⟩ := hf.ex
  have fo := hf.ok
  have fo1 := fo.stack
  have fo2 := fo.code
  have fo3 := fo.input
  have fo4 := fo.mem
  refine enter (n := 26) Hvaa.func57 rfl rfl (Nat.le_of_ble_eq_true rfl) ?_
  have U := Up.refl w
  have G : Go (No) w H w H := Go.refl hF
  have hL0 : Le H H := Le.refl H
  refine c_seq (fun K1 hK1 => ?_)
  exact (by
    refine c_region ?_
    refine l_step y_assignC ?_
    refine l_nil ?_
    refine hK1 _ _ ?_
    refine fg1 0 (gS rfl g0) (fun g => ?_)
    refine c_seq (fun K2 hK2 => ?_)
    refine c_seq (fun K3 hK3 => ?_)
    exact (by
      refine c_draw Up 15 [(0, true), (1, true), (2, true), (3, true), (4, true), (5, true), (6, true), (7, true), (8, true), (9, false), (10, true), (11, true), (12, true), (13, true), (14, true)] (by kernel_rfl) (fun w4 hu => ⟨Up.refl _, ?_⟩)
      replace G := G.tr (Go.ofUp hF hu)
      replace hF := hF.up hu
      replace kF := kF.up hu
      replace U := U.tr hu
      have SU := Up.refl w4
      refine p_step (by exact rfl) (y_moveV (et g0 rfl)) ?_
      refine p_step (by exact rfl) (y_nil (et g0 rfl)) ?_
      refine p_step (by exact rfl) (y_fld fld_146_3 (et g0 rfl)) ?_
      refine p_step (by exact rfl) (y_load1 one_95 (et g0 rfl) (atS (kF.cell (rF 3 _ rfl)))) ?_
      refine p_step (by exact rfl) (y_moveV (et (gS rfl (gS rfl (gS rfl (gS rfl g0)))) rfl)) ?_
      refine p_step (by exact rfl) (y_nil (et g0 rfl)) ?_
      refine p_step (by exact rfl) (y_fld fld_146_10 (et g0 rfl)) ?_
      refine p_step (by exact rfl) (y_load1 one_38 (et g0 rfl) (atS (kF.cell (rF 10 _ rfl)))) ?_
      refine p_step (by exact rfl) (y_len Hvaa.underlying38 (et g0 rfl)) ?_
      refine p_eff (by exact rfl) (e_callV cal_136 (aC (et (gS rfl (gS rfl (gS rfl (gS rfl (gS rfl g0))))) rfl) (aC (et g0 rfl) aN)) (yp_place hF hPc (bd_sm (bd_lt2 fo.pc (by decide) : f.pc < 256 ^ 4) (by decide)) f.code.length (by omega))) (fun v5 w5 h5 => ?_)
      obtain ⟨rfl, u5⟩ := h5
      replace G := G.tr (Go.ofUp hF u5)
      replace hF := hF.up u5
      replace kF := kF.up u5
      replace U := U.tr u5
      refine ⟨.inr (SU.tr u5), ?_⟩
      replace SU := SU.tr u5
      refine p_step (by exact rfl) (y_moveV (et g0 rfl)) ?_
      refine p_step (by exact rfl) (y_ext (et g0 rfl) rfl) ?_
      refine p_step (by exact rfl) (y_ext (et (gS rfl g0) rfl) rfl) ?_
      refine p_step (by exact rfl) (y_assignV (et (gS rfl g0) rfl)) ?_
      refine p_step (by exact rfl) (y_assignV (et (gS rfl g0) rfl)) ?_
      refine p_nil ?_
      refine hK3 _ _ ?_
      refine fg3 0 3 4 (gS rfl (gS rfl (gS rfl (gS rfl (gS rfl (gS rfl (gS rfl (gS rfl (gS rfl (gS rfl (gS rfl (gS rfl (gS rfl (gS rfl (gS rfl g0))))))))))))))) (gS rfl g0) g0 (fun g => ?_)
      refine c_seq (fun K6 hK6 => ?_)
      exact (by
        refine c_region ?_
        refine l_step (y_moveV (et g0 rfl)) ?_
        refine l_nil ?_
        refine hK6 _ _ ?_
        refine fg3 0 3 18 (gS rfl (gS rfl (gS rfl g0))) (gS rfl (gS rfl g0)) g0 (fun g => ?_)
        refine c_cond (et g0 rfl) (fun cB1 => ?_) (fun cB1 => ?_)
        · skip
          
          have hlt : f.pc < f.code.length := of_decide_eq_true cB1
          rw [show placeN f.pc f.code.length = f.pc by rw [placeN, if_pos hlt]]
          obtain ⟨ba, oa, ha, hb0, hr⟩ := (hCo.wv hF).at (by omega)
          refine c_seq (fun K8 hK8 => ?_)
          exact (by
            refine c_region ?_
            refine l_step (y_moveV (et (gS rfl (gS rfl g0)) rfl)) ?_
            refine l_step (y_nil (et g0 rfl)) ?_
            refine l_step (y_fld fld_146_10 (et g0 rfl)) ?_
            refine l_step (y_load1 one_38 (et g0 rfl) (at1 (kF.cell (rF 10 _ rfl)))) ?_
            refine l_step (y_moveV (et (gS rfl (gS rfl (gS rfl (gS rfl (gS rfl g0))))) rfl)) ?_
            refine l_step (y_idxSa ha Hvaa.underlying38 sz_5 (et (gS rfl g0) rfl) (et g0 rfl) ?_) ?_
            omega
            refine l_step (y_load1 one_5 (et g0 rfl) (at1 (row_byte hr (by omega)))) ?_
            refine l_step (y_assignV (et g0 rfl)) ?_
            refine l_nil ?_
            refine hK8 _ _ ?_
            refine fg1 2 g0 (fun g => ?_)
            refine c_ret ?_
            repeat with_reducible refine then_ret ?_
            refine ret1 rfl (res_tmp (et g0 rfl)) ?_
            exact ⟨by rw [opcN, List.getElem?_eq_getElem hlt]; rfl, U⟩)
        · skip
          
          have hlt : ¬ f.pc < f.code.length := of_decide_eq_false cB1
          refine c_skip ?_
          refine hK2 _ _ ?_
          refine fg0 (fun g => ?_)
          refine c_seq (fun K9 hK9 => ?_)
          exact (by
            refine c_region ?_
            refine l_step y_assignC ?_
            refine l_nil ?_
            refine hK9 _ _ ?_
            refine c_ret ?_
            repeat with_reducible refine then_ret ?_
            refine ret1 rfl (res_tmp (et g0 rfl)) ?_
            exact ⟨by rw [opcN, List.getElem?_eq_none (by omega)]; rfl, U⟩))))
def wrtN (f : YF) (o : Nat) : Bool := decide (o = 85) || decide (o = 93) || decide (o = 255) || (decide (160 ≤ o) && decide (o ≤ 164)) || decide (o = 240) || decide (o = 245) || (decide (o = 241) && decide (argN f.stack 2 ≠ 0))
theorem yp_writes {w : World} {H : Store} (hF : Fz w H) (bf o : Nat) (fs : Array Value) (f : YF) (vm : Value) (kF : Blk w bf fs) (hf : FC H fs o f vm) (q : Nat) (hq : q < 256) :
    Ret 138 [.pointer (some ⟨bf, o, none⟩), .int .u8 q] w (fun v w' => v = .bool (wrtN f q) ∧ Up w w') := by
  obtain ⟨vpc, vgas, vval, voo, vol, ka, kc, ca, cc, ia, ic, svc, rF, rSe, rCa, rSv, hSv, hPc, hGa, hVa, hOo, hOl, hSt, hCo, hIn⟩ := hf.ex
  have fo := hf.ok
  have fo1 := fo.stack
  have fo2 := fo.code
  have fo3 := fo.input
  have fo4 := fo.mem
  refine enter (n := 41) Hvaa.func138 rfl rfl (Nat.le_of_ble_eq_true rfl) ?_
  have U := Up.refl w
  have G : Go (No) w H w H := Go.refl hF
  have hL0 : Le H H := Le.refl H
  refine c_seq (fun K1 hK1 => ?_)
  exact (by
    refine c_region ?_
    refine l_step y_assignC ?_
    refine l_nil ?_
    refine hK1 _ _ ?_
    refine fg2 1 0 (gS rfl (gS rfl g0)) (gS rfl g0) (fun g => ?_)
    refine c_seq (fun K2 hK2 => ?_)
    exact (by
      refine c_region ?_
      refine l_step (y_moveV (et (gS rfl g0) rfl)) ?_
      refine l_step (y_eql (et g0 rfl) rfl) ?_
      refine l_step (y_moveV (et g0 rfl)) ?_
      refine gsplitL (i := 7) g0 (fun q3 => ?_) (fun q3 => ?_)
      · skip
        simp only [decide_eq_true_eq, Bool.or_eq_true, Bool.and_eq_true] at q3
        refine l_gskip (j := 2) (t := 7) (by exact rfl) (by exact rfl) (et g0 rfl) (by decide) (by decide) ?_
        refine l_gskip (j := 2) (t := 7) (by exact rfl) (by exact rfl) (et (gS rfl g0) rfl) (by decide) (by decide) ?_
        refine l_step (y_pickT (et (gS rfl (gS rfl g0)) rfl) rfl) ?_
        refine l_step (y_moveV (et g0 rfl)) ?_
        refine l_gskip (j := 6) (t := 11) (by exact rfl) (by exact rfl) (et g0 rfl) (by decide) (by decide) ?_
        refine l_gskip (j := 6) (t := 11) (by exact rfl) (by exact rfl) (et (gS rfl g0) rfl) (by decide) (by decide) ?_
        refine l_step (y_pickT (et (gS rfl (gS rfl g0)) rfl) rfl) ?_
        refine l_step (y_moveV (et g0 rfl)) ?_
        refine l_gskip (j := 10) (t := 15) (by exact rfl) (by exact rfl) (et g0 rfl) (by decide) (by decide) ?_
        refine l_gskip (j := 10) (t := 15) (by exact rfl) (by exact rfl) (et (gS rfl g0) rfl) (by decide) (by decide) ?_
        refine l_gskip (j := 10) (t := 15) (by exact rfl) (by exact rfl) (et (gS rfl (gS rfl g0)) rfl) (by decide) (by decide) ?_
        refine l_uskip (j := 13) (t := 18) (by exact rfl) (by exact rfl) (et g0 rfl) rfl ?_
        refine l_uskip (j := 13) (t := 18) (by exact rfl) (by exact rfl) (et (gS rfl g0) rfl) rfl ?_
        refine l_gskip (j := 10) (t := 15) (by exact rfl) (by exact rfl) (et (gS rfl (gS rfl (gS rfl (gS rfl (gS rfl g0))))) rfl) (by decide) (by decide) ?_
        refine l_step (y_pickT (et (gS rfl (gS rfl (gS rfl (gS rfl (gS rfl (gS rfl g0)))))) rfl) rfl) ?_
        refine l_step (y_moveV (et g0 rfl)) ?_
        refine l_gskip (j := 18) (t := 23) (by exact rfl) (by exact rfl) (et g0 rfl) (by decide) (by decide) ?_
        refine l_gskip (j := 18) (t := 23) (by exact rfl) (by exact rfl) (et (gS rfl g0) rfl) (by decide) (by decide) ?_
        refine l_step (y_pickT (et (gS rfl (gS rfl g0)) rfl) rfl) ?_
        refine l_step (y_moveV (et g0 rfl)) ?_
        refine l_gskip (j := 22) (t := 27) (by exact rfl) (by exact rfl) (et g0 rfl) (by decide) (by decide) ?_
        refine l_gskip (j := 22) (t := 27) (by exact rfl) (by exact rfl) (et (gS rfl g0) rfl) (by decide) (by decide) ?_
        refine l_step (y_pickT (et (gS rfl (gS rfl g0)) rfl) rfl) ?_
        refine l_step (y_moveV (et g0 rfl)) ?_
        refine l_gskip (j := 26) (t := 31) (by exact rfl) (by exact rfl) (et g0 rfl) (by decide) (by decide) ?_
        refine l_gskip (j := 26) (t := 31) (by exact rfl) (by exact rfl) (et (gS rfl g0) rfl) (by decide) (by decide) ?_
        refine l_gskip (j := 26) (t := 31) (by exact rfl) (by exact rfl) (et (gS rfl (gS rfl g0)) rfl) (by decide) (by decide) ?_
        refine l_uskip (j := 29) (t := 34) (by exact rfl) (by exact rfl) (et g0 rfl) rfl ?_
        refine l_uskip (j := 29) (t := 34) (by exact rfl) (by exact rfl) (et (gS rfl g0) rfl) rfl ?_
        refine l_uskip (j := 29) (t := 34) (by exact rfl) (by exact rfl) (et (gS rfl (gS rfl g0)) rfl) rfl ?_
        refine l_uskip (j := 29) (t := 34) (by exact rfl) (by exact rfl) (et (gS rfl (gS rfl (gS rfl g0))) rfl) rfl ?_
        refine l_gskip (j := 26) (t := 31) (by exact rfl) (by exact rfl) (et (gS rfl (gS rfl (gS rfl (gS rfl (gS rfl (gS rfl (gS rfl g0))))))) rfl) (by decide) (by decide) ?_
        exact (by
          refine l_step (y_pickT (et (gS rfl (gS rfl (gS rfl (gS rfl (gS rfl (gS rfl (gS rfl (gS rfl g0)))))))) rfl) rfl) ?_
          refine l_step (y_assignV (et g0 rfl)) ?_
          refine l_nil ?_
          refine hK2 _ _ ?_
          refine fg1 4 g0 (fun g => ?_)
          refine c_ret ?_
          repeat with_reducible refine then_ret ?_
          refine ret1 rfl (res_tmp (et g0 rfl)) ?_
          refine ⟨?_, U⟩
          unfold wrtN
          first | exact congrArg Value.bool (by rw [Bool.eq_iff_iff]; simp; omega) | (refine congrArg Value.bool ?_; rw [Bool.eq_iff_iff]; simp [*]) | omega)
      · skip
        simp only [decide_eq_false_iff_not] at q3
        refine l_gstep (j := 2) (t := 7) (by exact rfl) (by exact rfl) (et g0 rfl) (by decide) (y_moveV (et (gS rfl (gS rfl (gS rfl (gS rfl (gS rfl g0))))) rfl)) ?_
        refine l_gstep (j := 2) (t := 7) (by exact rfl) (by exact rfl) (et (gS rfl g0) rfl) (by decide) (y_eql (et g0 rfl) rfl) ?_
        refine l_step (y_pickF (et (gS rfl (gS rfl g0)) rfl) (et g0 rfl)) ?_
        refine l_step (y_moveV (et g0 rfl)) ?_
        refine gsplitL (i := 11) g0 (fun q4 => ?_) (fun q4 => ?_)
        · skip
          simp only [decide_eq_true_eq, Bool.or_eq_true, Bool.and_eq_true] at q4
          refine l_gskip (j := 6) (t := 11) (by exact rfl) (by exact rfl) (et g0 rfl) (by decide) (by decide) ?_
          refine l_gskip (j := 6) (t := 11) (by exact rfl) (by exact rfl) (et (gS rfl g0) rfl) (by decide) (by decide) ?_
          refine l_step (y_pickT (et (gS rfl (gS rfl g0)) rfl) rfl) ?_
          refine l_step (y_moveV (et g0 rfl)) ?_
          refine l_gskip (j := 10) (t := 15) (by exact rfl) (by exact rfl) (et g0 rfl) (by decide) (by decide) ?_
          refine l_gskip (j := 10) (t := 15) (by exact rfl) (by exact rfl) (et (gS rfl g0) rfl) (by decide) (by decide) ?_
          refine l_gskip (j := 10) (t := 15) (by exact rfl) (by exact rfl) (et (gS rfl (gS rfl g0)) rfl) (by decide) (by decide) ?_
          refine l_uskip (j := 13) (t := 18) (by exact rfl) (by exact rfl) (et g0 rfl) rfl ?_
          refine l_uskip (j := 13) (t := 18) (by exact rfl) (by exact rfl) (et (gS rfl g0) rfl) rfl ?_
          refine l_gskip (j := 10) (t := 15) (by exact rfl) (by exact rfl) (et (gS rfl (gS rfl (gS rfl (gS rfl (gS rfl g0))))) rfl) (by decide) (by decide) ?_
          refine l_step (y_pickT (et (gS rfl (gS rfl (gS rfl (gS rfl (gS rfl (gS rfl g0)))))) rfl) rfl) ?_
          refine l_step (y_moveV (et g0 rfl)) ?_
          refine l_gskip (j := 18) (t := 23) (by exact rfl) (by exact rfl) (et g0 rfl) (by decide) (by decide) ?_
          refine l_gskip (j := 18) (t := 23) (by exact rfl) (by exact rfl) (et (gS rfl g0) rfl) (by decide) (by decide) ?_
          refine l_step (y_pickT (et (gS rfl (gS rfl g0)) rfl) rfl) ?_
          refine l_step (y_moveV (et g0 rfl)) ?_
          refine l_gskip (j := 22) (t := 27) (by exact rfl) (by exact rfl) (et g0 rfl) (by decide) (by decide) ?_
          refine l_gskip (j := 22) (t := 27) (by exact rfl) (by exact rfl) (et (gS rfl g0) rfl) (by decide) (by decide) ?_
          refine l_step (y_pickT (et (gS rfl (gS rfl g0)) rfl) rfl) ?_
          refine l_step (y_moveV (et g0 rfl)) ?_
          refine l_gskip (j := 26) (t := 31) (by exact rfl) (by exact rfl) (et g0 rfl) (by decide) (by decide) ?_
          refine l_gskip (j := 26) (t := 31) (by exact rfl) (by exact rfl) (et (gS rfl g0) rfl) (by decide) (by decide) ?_
          refine l_gskip (j := 26) (t := 31) (by exact rfl) (by exact rfl) (et (gS rfl (gS rfl g0)) rfl) (by decide) (by decide) ?_
          refine l_uskip (j := 29) (t := 34) (by exact rfl) (by exact rfl) (et g0 rfl) rfl ?_
          refine l_uskip (j := 29) (t := 34) (by exact rfl) (by exact rfl) (et (gS rfl g0) rfl) rfl ?_
          refine l_uskip (j := 29) (t := 34) (by exact rfl) (by exact rfl) (et (gS rfl (gS rfl g0)) rfl) rfl ?_
          refine l_uskip (j := 29) (t := 34) (by exact rfl) (by exact rfl) (et (gS rfl (gS rfl (gS rfl g0))) rfl) rfl ?_
          refine l_gskip (j := 26) (t := 31) (by exact rfl) (by exact rfl) (et (gS rfl (gS rfl (gS rfl (gS rfl (gS rfl (gS rfl (gS rfl g0))))))) rfl) (by decide) (by decide) ?_
          refine l_step (y_pickT (et (gS rfl (gS rfl (gS rfl (gS rfl (gS rfl (gS rfl (gS rfl (gS rfl g0)))))))) rfl) rfl) ?_
          refine l_step (y_assignV (et g0 rfl)) ?_
          refine l_nil ?_
          refine hK2 _ _ ?_
          refine fg1 4 g0 (fun g => ?_)
          refine c_ret ?_
          repeat with_reducible refine then_ret ?_
          refine ret1 rfl (res_tmp (et g0 rfl)) ?_
          refine ⟨?_, U⟩
          unfold wrtN
          first | exact congrArg Value.bool (by rw [Bool.eq_iff_iff]; simp; omega) | (refine congrArg Value.bool ?_; rw [Bool.eq_iff_iff]; simp [*]) | omega
        · skip
          simp only [decide_eq_false_iff_not] at q4
          refine l_gstep (j := 6) (t := 11) (by exact rfl) (by exact rfl) (et g0 rfl) (by decide) (y_moveV (et (gS rfl (gS rfl (gS rfl (gS rfl (gS rfl (gS rfl (gS rfl (gS rfl (gS rfl (gS rfl g0)))))))))) rfl)) ?_
          refine l_gstep (j := 6) (t := 11) (by exact rfl) (by exact rfl) (et (gS rfl g0) rfl) (by decide) (y_eql (et g0 rfl) rfl) ?_
          refine l_step (y_pickF (et (gS rfl (gS rfl g0)) rfl) (et g0 rfl)) ?_
          refine l_step (y_moveV (et g0 rfl)) ?_
          refine gsplitL (i := 15) g0 (fun q5 => ?_) (fun q5 => ?_)
          · skip
            simp only [decide_eq_true_eq, Bool.or_eq_true, Bool.and_eq_true] at q5
            refine l_gskip (j := 10) (t := 15) (by exact rfl) (by exact rfl) (et g0 rfl) (by decide) (by decide) ?_
            refine l_gskip (j := 10) (t := 15) (by exact rfl) (by exact rfl) (et (gS rfl g0) rfl) (by decide) (by decide) ?_
            refine l_gskip (j := 10) (t := 15) (by exact rfl) (by exact rfl) (et (gS rfl (gS rfl g0)) rfl) (by decide) (by decide) ?_
            refine l_uskip (j := 13) (t := 18) (by exact rfl) (by exact rfl) (et g0 rfl) rfl ?_
            refine l_uskip (j := 13) (t := 18) (by exact rfl) (by exact rfl) (et (gS rfl g0) rfl) rfl ?_
            refine l_gskip (j := 10) (t := 15) (by exact rfl) (by exact rfl) (et (gS rfl (gS rfl (gS rfl (gS rfl (gS rfl g0))))) rfl) (by decide) (by decide) ?_
            refine l_step (y_pickT (et (gS rfl (gS rfl (gS rfl (gS rfl (gS rfl (gS rfl g0)))))) rfl) rfl) ?_
            refine l_step (y_moveV (et g0 rfl)) ?_
            refine l_gskip (j := 18) (t := 23) (by exact rfl) (by exact rfl) (et g0 rfl) (by decide) (by decide) ?_
            refine l_gskip (j := 18) (t := 23) (by exact rfl) (by exact rfl) (et (gS rfl g0) rfl) (by decide) (by decide) ?_
            refine l_step (y_pickT (et (gS rfl (gS rfl g0)) rfl) rfl) ?_
            refine l_step (y_moveV (et g0 rfl)) ?_
            refine l_gskip (j := 22) (t := 27) (by exact rfl) (by exact rfl) (et g0 rfl) (by decide) (by decide) ?_
            refine l_gskip (j := 22) (t := 27) (by exact rfl) (by exact rfl) (et (gS rfl g0) rfl) (by decide) (by decide) ?_
            refine l_step (y_pickT (et (gS rfl (gS rfl g0)) rfl) rfl) ?_
            refine l_step (y_moveV (et g0 rfl)) ?_
            refine l_gskip (j := 26) (t := 31) (by exact rfl) (by exact rfl) (et g0 rfl) (by decide) (by decide) ?_
            refine l_gskip (j := 26) (t := 31) (by exact rfl) (by exact rfl) (et (gS rfl g0) rfl) (by decide) (by decide) ?_
            refine l_gskip (j := 26) (t := 31) (by exact rfl) (by exact rfl) (et (gS rfl (gS rfl g0)) rfl) (by decide) (by decide) ?_
            refine l_uskip (j := 29) (t := 34) (by exact rfl) (by exact rfl) (et g0 rfl) rfl ?_
            refine l_uskip (j := 29) (t := 34) (by exact rfl) (by exact rfl) (et (gS rfl g0) rfl) rfl ?_
            refine l_uskip (j := 29) (t := 34) (by exact rfl) (by exact rfl) (et (gS rfl (gS rfl g0)) rfl) rfl ?_
            refine l_uskip (j := 29) (t := 34) (by exact rfl) (by exact rfl) (et (gS rfl (gS rfl (gS rfl g0))) rfl) rfl ?_
            refine l_gskip (j := 26) (t := 31) (by exact rfl) (by exact rfl) (et (gS rfl (gS rfl (gS rfl (gS rfl (gS rfl (gS rfl (gS rfl g0))))))) rfl) (by decide) (by decide) ?_
            refine l_step (y_pickT (et (gS rfl (gS rfl (gS rfl (gS rfl (gS rfl (gS rfl (gS rfl (gS rfl g0)))))))) rfl) rfl) ?_
            refine l_step (y_assignV (et g0 rfl)) ?_
            refine l_nil ?_
            refine hK2 _ _ ?_
            refine fg1 4 g0 (fun g => ?_)
            refine c_ret ?_
            repeat with_reducible refine then_ret ?_
            refine ret1 rfl (res_tmp (et g0 rfl)) ?_
            refine ⟨?_, U⟩
            unfold wrtN
            first | exact congrArg Value.bool (by rw [Bool.eq_iff_iff]; simp; omega) | (refine congrArg Value.bool ?_; rw [Bool.eq_iff_iff]; simp [*]) | omega
          · skip
            simp only [decide_eq_false_iff_not] at q5
            refine l_gstep (j := 10) (t := 15) (by exact rfl) (by exact rfl) (et g0 rfl) (by decide) (y_moveV (et (gS rfl (gS rfl (gS rfl (gS rfl (gS rfl (gS rfl (gS rfl (gS rfl (gS rfl (gS rfl (gS rfl (gS rfl (gS rfl (gS rfl (gS rfl g0))))))))))))))) rfl)) ?_
            refine l_gstep (j := 10) (t := 15) (by exact rfl) (by exact rfl) (et (gS rfl g0) rfl) (by decide) (y_geq (et g0 rfl) rfl) ?_
            refine l_gstep (j := 10) (t := 15) (by exact rfl) (by exact rfl) (et (gS rfl (gS rfl g0)) rfl) (by decide) (y_moveV (et g0 rfl)) ?_
            refine gsplitL (i := 18) g0 (fun q6 => ?_) (fun q6 => ?_)
            · skip
              simp only [decide_eq_true_eq, Bool.or_eq_true, Bool.and_eq_true] at q6
              refine l_gstep (j := 13) (t := 18) (by exact rfl) (by exact rfl) (et g0 rfl) (by decide) (y_moveV (et (gS rfl (gS rfl (gS rfl (gS rfl (gS rfl (gS rfl (gS rfl (gS rfl (gS rfl (gS rfl (gS rfl (gS rfl (gS rfl (gS rfl (gS rfl (gS rfl (gS rfl (gS rfl (gS rfl g0))))))))))))))))))) rfl)) ?_
              refine l_gstep (j := 13) (t := 18) (by exact rfl) (by exact rfl) (et (gS rfl g0) rfl) (by decide) (y_leq (et g0 rfl) rfl) ?_
              refine l_gstep (j := 10) (t := 15) (by exact rfl) (by exact rfl) (et (gS rfl (gS rfl (gS rfl (gS rfl (gS rfl (gS rfl g0)))))) rfl) (by decide) (y_pickT (et (gS rfl (gS rfl g0)) rfl) (et g0 rfl)) ?_
              refine l_step (y_pickF (et (gS rfl (gS rfl (gS rfl (gS rfl (gS rfl (gS rfl (gS rfl g0))))))) rfl) (et g0 rfl)) ?_
              refine l_step (y_moveV (et g0 rfl)) ?_
              refine gsplitL (i := 23) g0 (fun q7 => ?_) (fun q7 => ?_)
              · skip
                simp only [decide_eq_true_eq, Bool.or_eq_true, Bool.and_eq_true] at q7
                refine l_gskip (j := 18) (t := 23) (by exact rfl) (by exact rfl) (et g0 rfl) (by decide) (by decide) ?_
                refine l_gskip (j := 18) (t := 23) (by exact rfl) (by exact rfl) (et (gS rfl g0) rfl) (by decide) (by decide) ?_
                refine l_step (y_pickT (et (gS rfl (gS rfl g0)) rfl) rfl) ?_
                refine l_step (y_moveV (et g0 rfl)) ?_
                refine l_gskip (j := 22) (t := 27) (by exact rfl) (by exact rfl) (et g0 rfl) (by decide) (by decide) ?_
                refine l_gskip (j := 22) (t := 27) (by exact rfl) (by exact rfl) (et (gS rfl g0) rfl) (by decide) (by decide) ?_
                refine l_step (y_pickT (et (gS rfl (gS rfl g0)) rfl) rfl) ?_
                refine l_step (y_moveV (et g0 rfl)) ?_
                refine l_gskip (j := 26) (t := 31) (by exact rfl) (by exact rfl) (et g0 rfl) (by decide) (by decide) ?_
                refine l_gskip (j := 26) (t := 31) (by exact rfl) (by exact rfl) (et (gS rfl g0) rfl) (by decide) (by decide) ?_
                refine l_gskip (j := 26) (t := 31) (by exact rfl) (by exact rfl) (et (gS rfl (gS rfl g0)) rfl) (by decide) (by decide) ?_
                refine l_uskip (j := 29) (t := 34) (by exact rfl) (by exact rfl) (et g0 rfl) rfl ?_
                refine l_uskip (j := 29) (t := 34) (by exact rfl) (by exact rfl) (et (gS rfl g0) rfl) rfl ?_
                refine l_uskip (j := 29) (t := 34) (by exact rfl) (by exact rfl) (et (gS rfl (gS rfl g0)) rfl) rfl ?_
                refine l_uskip (j := 29) (t := 34) (by exact rfl) (by exact rfl) (et (gS rfl (gS rfl (gS rfl g0))) rfl) rfl ?_
                refine l_gskip (j := 26) (t := 31) (by exact rfl) (by exact rfl) (et (gS rfl (gS rfl (gS rfl (gS rfl (gS rfl (gS rfl (gS rfl g0))))))) rfl) (by decide) (by decide) ?_
                refine l_step (y_pickT (et (gS rfl (gS rfl (gS rfl (gS rfl (gS rfl (gS rfl (gS rfl (gS rfl g0)))))))) rfl) rfl) ?_
                refine l_step (y_assignV (et g0 rfl)) ?_
                refine l_nil ?_
                refine hK2 _ _ ?_
                refine fg1 4 g0 (fun g => ?_)
                refine c_ret ?_
                repeat with_reducible refine then_ret ?_
                refine ret1 rfl (res_tmp (et g0 rfl)) ?_
                refine ⟨?_, U⟩
                unfold wrtN
                first | exact congrArg Value.bool (by rw [Bool.eq_iff_iff]; simp; omega) | (refine congrArg Value.bool ?_; rw [Bool.eq_iff_iff]; simp [*]) | omega
              · skip
                simp only [decide_eq_false_iff_not] at q7
                refine l_gstep (j := 18) (t := 23) (by exact rfl) (by exact rfl) (et g0 rfl) (by decide) (y_moveV (et (gS rfl (gS rfl (gS rfl (gS rfl (gS rfl (gS rfl (gS rfl (gS rfl (gS rfl (gS rfl (gS rfl (gS rfl (gS rfl (gS rfl (gS rfl (gS rfl (gS rfl (gS rfl (gS rfl (gS rfl (gS rfl (gS rfl (gS rfl (gS rfl (gS rfl g0))))))))))))))))))))))))) rfl)) ?_
                refine l_gstep (j := 18) (t := 23) (by exact rfl) (by exact rfl) (et (gS rfl g0) rfl) (by decide) (y_eql (et g0 rfl) rfl) ?_
                refine l_step (y_pickF (et (gS rfl (gS rfl g0)) rfl) (et g0 rfl)) ?_
                refine l_step (y_moveV (et g0 rfl)) ?_
                refine gsplitL (i := 27) g0 (fun q8 => ?_) (fun q8 => ?_)
                · skip
                  simp only [decide_eq_true_eq, Bool.or_eq_true, Bool.and_eq_true] at q8
                  refine l_gskip (j := 22) (t := 27) (by exact rfl) (by exact rfl) (et g0 rfl) (by decide) (by decide) ?_
                  refine l_gskip (j := 22) (t := 27) (by exact rfl) (by exact rfl) (et (gS rfl g0) rfl) (by decide) (by decide) ?_
                  refine l_step (y_pickT (et (gS rfl (gS rfl g0)) rfl) rfl) ?_
                  refine l_step (y_moveV (et g0 rfl)) ?_
                  refine l_gskip (j := 26) (t := 31) (by exact rfl) (by exact rfl) (et g0 rfl) (by decide) (by decide) ?_
                  refine l_gskip (j := 26) (t := 31) (by exact rfl) (by exact rfl) (et (gS rfl g0) rfl) (by decide) (by decide) ?_
                  refine l_gskip (j := 26) (t := 31) (by exact rfl) (by exact rfl) (et (gS rfl (gS rfl g0)) rfl) (by decide) (by decide) ?_
                  refine l_uskip (j := 29) (t := 34) (by exact rfl) (by exact rfl) (et g0 rfl) rfl ?_
                  refine l_uskip (j := 29) (t := 34) (by exact rfl) (by exact rfl) (et (gS rfl g0) rfl) rfl ?_
                  refine l_uskip (j := 29) (t := 34) (by exact rfl) (by exact rfl) (et (gS rfl (gS rfl g0)) rfl) rfl ?_
                  refine l_uskip (j := 29) (t := 34) (by exact rfl) (by exact rfl) (et (gS rfl (gS rfl (gS rfl g0))) rfl) rfl ?_
                  refine l_gskip (j := 26) (t := 31) (by exact rfl) (by exact rfl) (et (gS rfl (gS rfl (gS rfl (gS rfl (gS rfl (gS rfl (gS rfl g0))))))) rfl) (by decide) (by decide) ?_
                  refine l_step (y_pickT (et (gS rfl (gS rfl (gS rfl (gS rfl (gS rfl (gS rfl (gS rfl (gS rfl g0)))))))) rfl) rfl) ?_
                  refine l_step (y_assignV (et g0 rfl)) ?_
                  refine l_nil ?_
                  refine hK2 _ _ ?_
                  refine fg1 4 g0 (fun g => ?_)
                  refine c_ret ?_
                  repeat with_reducible refine then_ret ?_
                  refine ret1 rfl (res_tmp (et g0 rfl)) ?_
                  refine ⟨?_, U⟩
                  unfold wrtN
                  first | exact congrArg Value.bool (by rw [Bool.eq_iff_iff]; simp; omega) | (refine congrArg Value.bool ?_; rw [Bool.eq_iff_iff]; simp [*]) | omega
                · skip
                  simp only [decide_eq_false_iff_not] at q8
                  refine l_gstep (j := 22) (t := 27) (by exact rfl) (by exact rfl) (et g0 rfl) (by decide) (y_moveV (et (gS rfl (gS rfl (gS rfl (gS rfl (gS rfl (gS rfl (gS rfl (gS rfl (gS rfl (gS rfl (gS rfl (gS rfl (gS rfl (gS rfl (gS rfl (gS rfl (gS rfl (gS rfl (gS rfl (gS rfl (gS rfl (gS rfl (gS rfl (gS rfl (gS rfl (gS rfl (gS rfl (gS rfl (gS rfl (gS rfl g0)))))))))))))))))))))))))))))) rfl)) ?_
                  refine l_gstep (j := 22) (t := 27) (by exact rfl) (by exact rfl) (et (gS rfl g0) rfl) (by decide) (y_eql (et g0 rfl) rfl) ?_
                  refine l_step (y_pickF (et (gS rfl (gS rfl g0)) rfl) (et g0 rfl)) ?_
                  refine l_step (y_moveV (et g0 rfl)) ?_
                  refine gsplitL (i := 31) g0 (fun q9 => ?_) (fun q9 => ?_)
                  · skip
                    simp only [decide_eq_true_eq, Bool.or_eq_true, Bool.and_eq_true] at q9
                    refine l_gskip (j := 26) (t := 31) (by exact rfl) (by exact rfl) (et g0 rfl) (by decide) (by decide) ?_
                    refine l_gskip (j := 26) (t := 31) (by exact rfl) (by exact rfl) (et (gS rfl g0) rfl) (by decide) (by decide) ?_
                    refine l_gskip (j := 26) (t := 31) (by exact rfl) (by exact rfl) (et (gS rfl (gS rfl g0)) rfl) (by decide) (by decide) ?_
                    refine l_uskip (j := 29) (t := 34) (by exact rfl) (by exact rfl) (et g0 rfl) rfl ?_
                    refine l_uskip (j := 29) (t := 34) (by exact rfl) (by exact rfl) (et (gS rfl g0) rfl) rfl ?_
                    refine l_uskip (j := 29) (t := 34) (by exact rfl) (by exact rfl) (et (gS rfl (gS rfl g0)) rfl) rfl ?_
                    refine l_uskip (j := 29) (t := 34) (by exact rfl) (by exact rfl) (et (gS rfl (gS rfl (gS rfl g0))) rfl) rfl ?_
                    refine l_gskip (j := 26) (t := 31) (by exact rfl) (by exact rfl) (et (gS rfl (gS rfl (gS rfl (gS rfl (gS rfl (gS rfl (gS rfl g0))))))) rfl) (by decide) (by decide) ?_
                    refine l_step (y_pickT (et (gS rfl (gS rfl (gS rfl (gS rfl (gS rfl (gS rfl (gS rfl (gS rfl g0)))))))) rfl) rfl) ?_
                    refine l_step (y_assignV (et g0 rfl)) ?_
                    refine l_nil ?_
                    refine hK2 _ _ ?_
                    refine fg1 4 g0 (fun g => ?_)
                    refine c_ret ?_
                    repeat with_reducible refine then_ret ?_
                    refine ret1 rfl (res_tmp (et g0 rfl)) ?_
                    refine ⟨?_, U⟩
                    unfold wrtN
                    first | exact congrArg Value.bool (by rw [Bool.eq_iff_iff]; simp; omega) | (refine congrArg Value.bool ?_; rw [Bool.eq_iff_iff]; simp [*]) | omega
                  · skip
                    simp only [decide_eq_false_iff_not] at q9
                    refine l_gstep (j := 26) (t := 31) (by exact rfl) (by exact rfl) (et g0 rfl) (by decide) (y_moveV (et (gS rfl (gS rfl (gS rfl (gS rfl (gS rfl (gS rfl (gS rfl (gS rfl (gS rfl (gS rfl (gS rfl (gS rfl (gS rfl (gS rfl (gS rfl (gS rfl (gS rfl (gS rfl (gS rfl (gS rfl (gS rfl (gS rfl (gS rfl (gS rfl (gS rfl (gS rfl (gS rfl (gS rfl (gS rfl (gS rfl (gS rfl (gS rfl (gS rfl (gS rfl (gS rfl g0))))))))))))))))))))))))))))))))))) rfl)) ?_
                    refine l_gstep (j := 26) (t := 31) (by exact rfl) (by exact rfl) (et (gS rfl g0) rfl) (by decide) (y_eql (et g0 rfl) rfl) ?_
                    refine l_gstep (j := 26) (t := 31) (by exact rfl) (by exact rfl) (et (gS rfl (gS rfl g0)) rfl) (by decide) (y_moveV (et g0 rfl)) ?_
                    refine gsplitL (i := 34) g0 (fun q10 => ?_) (fun q10 => ?_)
                    · skip
                      simp only [decide_eq_true_eq, Bool.or_eq_true, Bool.and_eq_true] at q10
                      refine l_gstep (j := 29) (t := 34) (by exact rfl) (by exact rfl) (et g0 rfl) (by decide) (y_moveV (et (gS rfl (gS rfl (gS rfl (gS rfl (gS rfl (gS rfl (gS rfl (gS rfl (gS rfl (gS rfl (gS rfl (gS rfl (gS rfl (gS rfl (gS rfl (gS rfl (gS rfl (gS rfl (gS rfl (gS rfl (gS rfl (gS rfl (gS rfl (gS rfl (gS rfl (gS rfl (gS rfl (gS rfl (gS rfl (gS rfl (gS rfl (gS rfl (gS rfl (gS rfl (gS rfl (gS rfl (gS rfl (gS rfl g0)))))))))))))))))))))))))))))))))))))) rfl)) ?_
                      refine l_geff (j := 29) (t := 34) (by exact rfl) (by exact rfl) (et (gS rfl g0) rfl) rfl (e_callV cal_63 (aC (et g0 rfl) (aC (v := .int .i64 ((2 : Nat) : Int)) rfl aN)) (yp_arg _ _ 2 _ _ _ _ _ _ hF kF (rF 8 _ rfl) (hSt.mono hL0) (by omega) (by first | decide | omega))) (fun v11 w11 h11 => ?_)
                      obtain ⟨u11, n11, q11⟩ := h11
                      replace G := G.tr (Go.ofUp hF u11)
                      replace hF := hF.up u11
                      replace kF := kF.up u11
                      replace U := U.tr u11
                      refine l_geff (j := 29) (t := 34) (by exact rfl) (by exact rfl) (et (gS rfl (gS rfl g0)) rfl) rfl (e_callV cal_79 (aC (et g0 rfl) aN) (yp_isZero hF n11 (bd_sm (bd_W q11) (by decide)))) (fun v12 w12 h12 => ?_)
                      obtain ⟨rfl, u12⟩ := h12
                      replace G := G.tr (Go.ofUp hF u12)
                      replace hF := hF.up u12
                      replace kF := kF.up u12
                      replace U := U.tr u12
                      refine l_gstep (j := 29) (t := 34) (by exact rfl) (by exact rfl) (et (gS rfl (gS rfl (gS rfl g0))) rfl) (by decide) (y_not (et g0 rfl)) ?_
                      refine l_gstep (j := 26) (t := 31) (by exact rfl) (by exact rfl) (et (gS rfl (gS rfl (gS rfl (gS rfl (gS rfl (gS rfl (gS rfl (gS rfl g0)))))))) rfl) (by decide) (y_pickT (et (gS rfl (gS rfl (gS rfl (gS rfl g0)))) rfl) (et g0 rfl)) ?_
                      refine l_step (y_pickF (et (gS rfl (gS rfl (gS rfl (gS rfl (gS rfl (gS rfl (gS rfl (gS rfl (gS rfl g0))))))))) rfl) (et g0 rfl)) ?_
                      refine l_step (y_assignV (et g0 rfl)) ?_
                      refine l_nil ?_
                      refine hK2 _ _ ?_
                      refine fg1 4 g0 (fun g => ?_)
                      refine c_ret ?_
                      repeat with_reducible refine then_ret ?_
                      refine ret1 rfl (res_tmp (et g0 rfl)) ?_
                      refine ⟨?_, U⟩
                      unfold wrtN
                      first | exact congrArg Value.bool (by rw [Bool.eq_iff_iff]; simp; omega) | (refine congrArg Value.bool ?_; rw [Bool.eq_iff_iff]; simp [*]) | omega
                    · skip
                      simp only [decide_eq_false_iff_not] at q10
                      refine l_gskip (j := 29) (t := 34) (by exact rfl) (by exact rfl) (et g0 rfl) (by decide) (by decide) ?_
                      refine l_gskip (j := 29) (t := 34) (by exact rfl) (by exact rfl) (et (gS rfl g0) rfl) (by decide) (by decide) ?_
                      refine l_gskip (j := 29) (t := 34) (by exact rfl) (by exact rfl) (et (gS rfl (gS rfl g0)) rfl) (by decide) (by decide) ?_
                      refine l_gskip (j := 29) (t := 34) (by exact rfl) (by exact rfl) (et (gS rfl (gS rfl (gS rfl g0))) rfl) (by decide) (by decide) ?_
                      refine l_gstep (j := 26) (t := 31) (by exact rfl) (by exact rfl) (et (gS rfl (gS rfl (gS rfl (gS rfl (gS rfl (gS rfl (gS rfl (gS rfl g0)))))))) rfl) (by decide) (y_pickF (et (gS rfl (gS rfl (gS rfl (gS rfl g0)))) rfl) rfl) ?_
                      refine l_step (y_pickF (et (gS rfl (gS rfl (gS rfl (gS rfl (gS rfl (gS rfl (gS rfl (gS rfl (gS rfl g0))))))))) rfl) (et g0 rfl)) ?_
                      refine l_step (y_assignV (et g0 rfl)) ?_
                      refine l_nil ?_
                      refine hK2 _ _ ?_
                      refine fg1 4 g0 (fun g => ?_)
                      refine c_ret ?_
                      repeat with_reducible refine then_ret ?_
                      refine ret1 rfl (res_tmp (et g0 rfl)) ?_
                      refine ⟨?_, U⟩
                      unfold wrtN
                      first | exact congrArg Value.bool (by rw [Bool.eq_iff_iff]; simp; omega) | (refine congrArg Value.bool ?_; rw [Bool.eq_iff_iff]; simp [*]) | omega
            · skip
              simp only [decide_eq_false_iff_not] at q6
              refine l_gskip (j := 13) (t := 18) (by exact rfl) (by exact rfl) (et g0 rfl) (by decide) (by decide) ?_
              refine l_gskip (j := 13) (t := 18) (by exact rfl) (by exact rfl) (et (gS rfl g0) rfl) (by decide) (by decide) ?_
              refine l_gstep (j := 10) (t := 15) (by exact rfl) (by exact rfl) (et (gS rfl (gS rfl (gS rfl (gS rfl (gS rfl (gS rfl g0)))))) rfl) (by decide) (y_pickF (et (gS rfl (gS rfl g0)) rfl) rfl) ?_
              refine l_step (y_pickF (et (gS rfl (gS rfl (gS rfl (gS rfl (gS rfl (gS rfl (gS rfl g0))))))) rfl) (et g0 rfl)) ?_
              refine l_step (y_moveV (et g0 rfl)) ?_
              refine l_gstep (j := 18) (t := 23) (by exact rfl) (by exact rfl) (et g0 rfl) (by decide) (y_moveV (et (gS rfl (gS rfl (gS rfl (gS rfl (gS rfl (gS rfl (gS rfl (gS rfl (gS rfl (gS rfl (gS rfl (gS rfl (gS rfl (gS rfl (gS rfl (gS rfl (gS rfl (gS rfl (gS rfl (gS rfl (gS rfl (gS rfl (gS rfl (gS rfl g0)))))))))))))))))))))))) rfl)) ?_
              refine l_gstep (j := 18) (t := 23) (by exact rfl) (by exact rfl) (et (gS rfl g0) rfl) (by decide) (y_eql (et g0 rfl) rfl) ?_
              refine l_step (y_pickF (et (gS rfl (gS rfl g0)) rfl) (et g0 rfl)) ?_
              refine l_step (y_moveV (et g0 rfl)) ?_
              refine gsplitL (i := 27) g0 (fun q13 => ?_) (fun q13 => ?_)
              · skip
                simp only [decide_eq_true_eq, Bool.or_eq_true, Bool.and_eq_true] at q13
                refine l_gskip (j := 22) (t := 27) (by exact rfl) (by exact rfl) (et g0 rfl) (by decide) (by decide) ?_
                refine l_gskip (j := 22) (t := 27) (by exact rfl) (by exact rfl) (et (gS rfl g0) rfl) (by decide) (by decide) ?_
                refine l_step (y_pickT (et (gS rfl (gS rfl g0)) rfl) rfl) ?_
                refine l_step (y_moveV (et g0 rfl)) ?_
                refine l_gskip (j := 26) (t := 31) (by exact rfl) (by exact rfl) (et g0 rfl) (by decide) (by decide) ?_
                refine l_gskip (j := 26) (t := 31) (by exact rfl) (by exact rfl) (et (gS rfl g0) rfl) (by decide) (by decide) ?_
                refine l_gskip (j := 26) (t := 31) (by exact rfl) (by exact rfl) (et (gS rfl (gS rfl g0)) rfl) (by decide) (by decide) ?_
                refine l_uskip (j := 29) (t := 34) (by exact rfl) (by exact rfl) (et g0 rfl) rfl ?_
                refine l_uskip (j := 29) (t := 34) (by exact rfl) (by exact rfl) (et (gS rfl g0) rfl) rfl ?_
                refine l_uskip (j := 29) (t := 34) (by exact rfl) (by exact rfl) (et (gS rfl (gS rfl g0)) rfl) rfl ?_
                refine l_uskip (j := 29) (t := 34) (by exact rfl) (by exact rfl) (et (gS rfl (gS rfl (gS rfl g0))) rfl) rfl ?_
                refine l_gskip (j := 26) (t := 31) (by exact rfl) (by exact rfl) (et (gS rfl (gS rfl (gS rfl (gS rfl (gS rfl (gS rfl (gS rfl g0))))))) rfl) (by decide) (by decide) ?_
                refine l_step (y_pickT (et (gS rfl (gS rfl (gS rfl (gS rfl (gS rfl (gS rfl (gS rfl (gS rfl g0)))))))) rfl) rfl) ?_
                refine l_step (y_assignV (et g0 rfl)) ?_
                refine l_nil ?_
                refine hK2 _ _ ?_
                refine fg1 4 g0 (fun g => ?_)
                refine c_ret ?_
                repeat with_reducible refine then_ret ?_
                refine ret1 rfl (res_tmp (et g0 rfl)) ?_
                refine ⟨?_, U⟩
                unfold wrtN
                first | exact congrArg Value.bool (by rw [Bool.eq_iff_iff]; simp; omega) | (refine congrArg Value.bool ?_; rw [Bool.eq_iff_iff]; simp [*]) | omega
              · skip
                simp only [decide_eq_false_iff_not] at q13
                refine l_gstep (j := 22) (t := 27) (by exact rfl) (by exact rfl) (et g0 rfl) (by decide) (y_moveV (et (gS rfl (gS rfl (gS rfl (gS rfl (gS rfl (gS rfl (gS rfl (gS rfl (gS rfl (gS rfl (gS rfl (gS rfl (gS rfl (gS rfl (gS rfl (gS rfl (gS rfl (gS rfl (gS rfl (gS rfl (gS rfl (gS rfl (gS rfl (gS rfl (gS rfl (gS rfl (gS rfl (gS rfl (gS rfl g0))))))))))))))))))))))))))))) rfl)) ?_
                refine l_gstep (j := 22) (t := 27) (by exact rfl) (by exact rfl) (et (gS rfl g0) rfl) (by decide) (y_eql (et g0 rfl) rfl) ?_
                refine l_step (y_pickF (et (gS rfl (gS rfl g0)) rfl) (et g0 rfl)) ?_
                refine l_step (y_moveV (et g0 rfl)) ?_
                refine gsplitL (i := 31) g0 (fun q14 => ?_) (fun q14 => ?_)
                · skip
                  simp only [decide_eq_true_eq, Bool.or_eq_true, Bool.and_eq_true] at q14
                  refine l_gskip (j := 26) (t := 31) (by exact rfl) (by exact rfl) (et g0 rfl) (by decide) (by decide) ?_
                  refine l_gskip (j := 26) (t := 31) (by exact rfl) (by exact rfl) (et (gS rfl g0) rfl) (by decide) (by decide) ?_
                  refine l_gskip (j := 26) (t := 31) (by exact rfl) (by exact rfl) (et (gS rfl (gS rfl g0)) rfl) (by decide) (by decide) ?_
                  refine l_uskip (j := 29) (t := 34) (by exact rfl) (by exact rfl) (et g0 rfl) rfl ?_
                  refine l_uskip (j := 29) (t := 34) (by exact rfl) (by exact rfl) (et (gS rfl g0) rfl) rfl ?_
                  refine l_uskip (j := 29) (t := 34) (by exact rfl) (by exact rfl) (et (gS rfl (gS rfl g0)) rfl) rfl ?_
                  refine l_uskip (j := 29) (t := 34) (by exact rfl) (by exact rfl) (et (gS rfl (gS rfl (gS rfl g0))) rfl) rfl ?_
                  refine l_gskip (j := 26) (t := 31) (by exact rfl) (by exact rfl) (et (gS rfl (gS rfl (gS rfl (gS rfl (gS rfl (gS rfl (gS rfl g0))))))) rfl) (by decide) (by decide) ?_
                  refine l_step (y_pickT (et (gS rfl (gS rfl (gS rfl (gS rfl (gS rfl (gS rfl (gS rfl (gS rfl g0)))))))) rfl) rfl) ?_
                  refine l_step (y_assignV (et g0 rfl)) ?_
                  refine l_nil ?_
                  refine hK2 _ _ ?_
                  refine fg1 4 g0 (fun g => ?_)
                  refine c_ret ?_
                  repeat with_reducible refine then_ret ?_
                  refine ret1 rfl (res_tmp (et g0 rfl)) ?_
                  refine ⟨?_, U⟩
                  unfold wrtN
                  first | exact congrArg Value.bool (by rw [Bool.eq_iff_iff]; simp; omega) | (refine congrArg Value.bool ?_; rw [Bool.eq_iff_iff]; simp [*]) | omega
                · skip
                  simp only [decide_eq_false_iff_not] at q14
                  refine l_gstep (j := 26) (t := 31) (by exact rfl) (by exact rfl) (et g0 rfl) (by decide) (y_moveV (et (gS rfl (gS rfl (gS rfl (gS rfl (gS rfl (gS rfl (gS rfl (gS rfl (gS rfl (gS rfl (gS rfl (gS rfl (gS rfl (gS rfl (gS rfl (gS rfl (gS rfl (gS rfl (gS rfl (gS rfl (gS rfl (gS rfl (gS rfl (gS rfl (gS rfl (gS rfl (gS rfl (gS rfl (gS rfl (gS rfl (gS rfl (gS rfl (gS rfl (gS rfl g0)))))))))))))))))))))))))))))))))) rfl)) ?_
                  refine l_gstep (j := 26) (t := 31) (by exact rfl) (by exact rfl) (et (gS rfl g0) rfl) (by decide) (y_eql (et g0 rfl) rfl) ?_
                  refine l_gstep (j := 26) (t := 31) (by exact rfl) (by exact rfl) (et (gS rfl (gS rfl g0)) rfl) (by decide) (y_moveV (et g0 rfl)) ?_
                  refine gsplitL (i := 34) g0 (fun q15 => ?_) (fun q15 => ?_)
                  · skip
                    simp only [decide_eq_true_eq, Bool.or_eq_true, Bool.and_eq_true] at q15
                    refine l_gstep (j := 29) (t := 34) (by exact rfl) (by exact rfl) (et g0 rfl) (by decide) (y_moveV (et (gS rfl (gS rfl (gS rfl (gS rfl (gS rfl (gS rfl (gS rfl (gS rfl (gS rfl (gS rfl (gS rfl (gS rfl (gS rfl (gS rfl (gS rfl (gS rfl (gS rfl (gS rfl (gS rfl (gS rfl (gS rfl (gS rfl (gS rfl (gS rfl (gS rfl (gS rfl (gS rfl (gS rfl (gS rfl (gS rfl (gS rfl (gS rfl (gS rfl (gS rfl (gS rfl (gS rfl (gS rfl g0))))))))))))))))))))))))))))))))))))) rfl)) ?_
                    refine l_geff (j := 29) (t := 34) (by exact rfl) (by exact rfl) (et (gS rfl g0) rfl) rfl (e_callV cal_63 (aC (et g0 rfl) (aC (v := .int .i64 ((2 : Nat) : Int)) rfl aN)) (yp_arg _ _ 2 _ _ _ _ _ _ hF kF (rF 8 _ rfl) (hSt.mono hL0) (by omega) (by first | decide | omega))) (fun v16 w16 h16 => ?_)
                    obtain ⟨u16, n16, q16⟩ := h16
                    replace G := G.tr (Go.ofUp hF u16)
                    replace hF := hF.up u16
                    replace kF := kF.up u16
                    replace U := U.tr u16
                    refine l_geff (j := 29) (t := 34) (by exact rfl) (by exact rfl) (et (gS rfl (gS rfl g0)) rfl) rfl (e_callV cal_79 (aC (et g0 rfl) aN) (yp_isZero hF n16 (bd_sm (bd_W q16) (by decide)))) (fun v17 w17 h17 => ?_)
                    obtain ⟨rfl, u17⟩ := h17
                    replace G := G.tr (Go.ofUp hF u17)
                    replace hF := hF.up u17
                    replace kF := kF.up u17
                    replace U := U.tr u17
                    refine l_gstep (j := 29) (t := 34) (by exact rfl) (by exact rfl) (et (gS rfl (gS rfl (gS rfl g0))) rfl) (by decide) (y_not (et g0 rfl)) ?_
                    refine l_gstep (j := 26) (t := 31) (by exact rfl) (by exact rfl) (et (gS rfl (gS rfl (gS rfl (gS rfl (gS rfl (gS rfl (gS rfl (gS rfl g0)))))))) rfl) (by decide) (y_pickT (et (gS rfl (gS rfl (gS rfl (gS rfl g0)))) rfl) (et g0 rfl)) ?_
                    refine l_step (y_pickF (et (gS rfl (gS rfl (gS rfl (gS rfl (gS rfl (gS rfl (gS rfl (gS rfl (gS rfl g0))))))))) rfl) (et g0 rfl)) ?_
                    refine l_step (y_assignV (et g0 rfl)) ?_
                    refine l_nil ?_
                    refine hK2 _ _ ?_
                    refine fg1 4 g0 (fun g => ?_)
                    refine c_ret ?_
                    repeat with_reducible refine then_ret ?_
                    refine ret1 rfl (res_tmp (et g0 rfl)) ?_
                    refine ⟨?_, U⟩
                    unfold wrtN
                    first | exact congrArg Value.bool (by rw [Bool.eq_iff_iff]; simp; omega) | (refine congrArg Value.bool ?_; rw [Bool.eq_iff_iff]; simp [*]) | omega
                  · skip
                    simp only [decide_eq_false_iff_not] at q15
                    refine l_gskip (j := 29) (t := 34) (by exact rfl) (by exact rfl) (et g0 rfl) (by decide) (by decide) ?_
                    refine l_gskip (j := 29) (t := 34) (by exact rfl) (by exact rfl) (et (gS rfl g0) rfl) (by decide) (by decide) ?_
                    refine l_gskip (j := 29) (t := 34) (by exact rfl) (by exact rfl) (et (gS rfl (gS rfl g0)) rfl) (by decide) (by decide) ?_
                    refine l_gskip (j := 29) (t := 34) (by exact rfl) (by exact rfl) (et (gS rfl (gS rfl (gS rfl g0))) rfl) (by decide) (by decide) ?_
                    refine l_gstep (j := 26) (t := 31) (by exact rfl) (by exact rfl) (et (gS rfl (gS rfl (gS rfl (gS rfl (gS rfl (gS rfl (gS rfl (gS rfl g0)))))))) rfl) (by decide) (y_pickF (et (gS rfl (gS rfl (gS rfl (gS rfl g0)))) rfl) rfl) ?_
                    refine l_step (y_pickF (et (gS rfl (gS rfl (gS rfl (gS rfl (gS rfl (gS rfl (gS rfl (gS rfl (gS rfl g0))))))))) rfl) (et g0 rfl)) ?_
                    refine l_step (y_assignV (et g0 rfl)) ?_
                    refine l_nil ?_
                    refine hK2 _ _ ?_
                    refine fg1 4 g0 (fun g => ?_)
                    refine c_ret ?_
                    repeat with_reducible refine then_ret ?_
                    refine ret1 rfl (res_tmp (et g0 rfl)) ?_
                    refine ⟨?_, U⟩
                    unfold wrtN
                    first | exact congrArg Value.bool (by rw [Bool.eq_iff_iff]; simp; omega) | (refine congrArg Value.bool ?_; rw [Bool.eq_iff_iff]; simp [*]) | omega))
def yReach (l : List Nat) (o : Nat) : Nat :=
  if o = 32 ∨ o = 243 ∨ o = 253 ∨ (160 ≤ o ∧ o ≤ 164) then endN (argN l 0) (argN l 1)
  else if o = 55 ∨ o = 57 ∨ o = 62 then endN (argN l 0) (argN l 2)
  else if o = 60 then endN (argN l 1) (argN l 3)
  else if o = 81 ∨ o = 82 then endN (argN l 0) 32
  else if o = 83 then endN (argN l 0) 1
  else if o = 94 then max (endN (argN l 0) (argN l 2)) (endN (argN l 1) (argN l 2))
  else if o = 240 ∨ o = 245 then endN (argN l 1) (argN l 2)
  else if o = 241 ∨ o = 242 then max (endN (argN l 3) (argN l 4)) (endN (argN l 5) (argN l 6))
  else if o = 244 ∨ o = 250 then max (endN (argN l 2) (argN l 3)) (endN (argN l 4) (argN l 5))
  else 0
theorem yp_reach {w : World} {H : Store} (hF : Fz w H) (bf o : Nat) (fs : Array Value) (f : YF) (vm : Value) (kF : Blk w bf fs) (hf : FC H fs o f vm) (q : Nat) (hq : q < 256) :
    Ret 61 [.pointer (some ⟨bf, o, none⟩), .int .u8 q] w (fun v w' => ∃ H', Go No w H w' H' ∧ NV H' v (yReach f.stack q) ∧ yReach f.stack q < 256 ^ 33) := by
  obtain ⟨vpc, vgas, vval, voo, vol, ka, kc, ca, cc, ia, ic, svc, rF, rSe, rCa, rSv, hSv, hPc, hGa, hVa, hOo, hOl, hSt, hCo, hIn⟩ := hf.ex
  have fo := hf.ok
  have fo1 := fo.stack
  have fo2 := fo.code
  have fo3 := fo.input
  have fo4 := fo.mem
  refine enter (n := 115) Hvaa.func61 rfl rfl (Nat.le_of_ble_eq_true rfl) ?_
  have U := Up.refl w
  have G : Go (No) w H w H := Go.refl hF
  have hL0 : Le H H := Le.refl H
  refine c_seq (fun K1 hK1 => ?_)
  exact (by
    refine c_region ?_
    refine l_step y_assignC ?_
    refine l_nil ?_
    refine hK1 _ _ ?_
    refine fg2 1 0 (gS rfl (gS rfl g0)) (gS rfl g0) (fun g => ?_)
    refine c_seq (fun K2 hK2 => ?_)
    refine c_block (fun Q3 hQ3 => ?_)
    refine c_seq (fun K4 hK4 => ?_)
    refine c_seq (fun K5 hK5 => ?_)
    exact (by
      refine c_region ?_
      refine l_step (y_moveV (et (gS rfl g0) rfl)) ?_
      refine l_step (y_eql (et g0 rfl) rfl) ?_
      refine l_step (y_assignV (et g0 rfl)) ?_
      refine l_nil ?_
      refine hK5 _ _ ?_
      refine fg3 1 0 5 (gS rfl (gS rfl (gS rfl (gS rfl g0)))) (gS rfl (gS rfl (gS rfl g0))) g0 (fun g => ?_)
      refine c_condV (i := 5) g0 rfl (fun cB1 => ?_) (fun cB1 => ?_)
      · skip
        simp only [Bool.and_eq_true, Bool.or_eq_true, Bool.and_eq_false_imp, Bool.or_eq_false_iff, decide_eq_true_eq, decide_eq_false_iff_not] at cB1
        refine c_skip ?_
        refine hK4 _ _ ?_
        refine fg3 1 0 5 (gS rfl (gS rfl (gS rfl g0))) (gS rfl (gS rfl g0)) g0 (fun g => ?_)
        refine c_true (et g0 rfl) rfl ?_
        refine c_seq (fun K8 hK8 => ?_)
        exact (by
          refine c_region ?_
          refine l_step (y_moveV (et (gS rfl g0) rfl)) ?_
          refine l_eff (e_callV cal_63 (aC (et g0 rfl) (aC (v := .int .i64 ((0 : Nat) : Int)) rfl aN)) (yp_arg _ _ 0 _ _ _ _ _ _ hF kF (rF 8 _ rfl) (hSt.mono hL0) (by omega) (by first | decide | omega))) (fun v9 w9 h9 => ?_)
          obtain ⟨u9, n9, q9⟩ := h9
          replace G := G.tr (Go.ofUp hF u9)
          replace hF := hF.up u9
          replace kF := kF.up u9
          replace U := U.tr u9
          refine l_step (y_moveV (et (gS rfl (gS rfl (gS rfl g0))) rfl)) ?_
          refine l_eff (e_callV cal_63 (aC (et g0 rfl) (aC (v := .int .i64 ((1 : Nat) : Int)) rfl aN)) (yp_arg _ _ 1 _ _ _ _ _ _ hF kF (rF 8 _ rfl) (hSt.mono hL0) (by omega) (by first | decide | omega))) (fun v10 w10 h10 => ?_)
          obtain ⟨u10, n10, q10⟩ := h10
          replace G := G.tr (Go.ofUp hF u10)
          replace hF := hF.up u10
          replace kF := kF.up u10
          replace U := U.tr u10
          refine l_eff (e_callV cal_144 (aC (et (gS rfl (gS rfl g0)) rfl) (aC (et g0 rfl) aN)) (yp_end hF n9 n10 (bd_up (bd_W q9) (by decide)) (bd_up (bd_W q10) (by decide)))) (fun v11 w11 h11 => ?_)
          obtain ⟨H11, g11, n11⟩ := h11
          have hlew11 := g11.le
          replace n9 := n9.mono hlew11
          replace n10 := n10.mono hlew11
          replace hL0 := hL0.trans hlew11
          replace kF := kF.up g11.up
          replace U := U.tr g11.up
          replace G := G.tr g11
          replace hF := g11.fz
          have q11 := bd_end (c := 33) (bd_up (b := 32) (bd_W q9) (by decide)) (bd_up (b := 32) (bd_W q10) (by decide)) (by decide)
          refine l_step (y_assignV (et g0 rfl)) ?_
          refine l_nil ?_
          refine hK8 _ _ ?_
          refine fg1 4 g0 (fun g => ?_)
          refine c_ret ?_
          refine hQ3 _ _ _ (in_ret ?_)
          repeat with_reducible refine then_ret ?_
          refine ret1 rfl (res_tmp (et g0 rfl)) ?_
          exact ⟨_, G, n11.to (by rw [yReach, if_pos (by omega)]), by rw [yReach, if_pos (by omega)]; first | exact q11 | exact bd_up q11 (by decide)⟩)
      · skip
        simp only [Bool.and_eq_true, Bool.or_eq_true, Bool.and_eq_false_imp, Bool.or_eq_false_iff, decide_eq_true_eq, decide_eq_false_iff_not] at cB1
        refine c_seq (fun K12 hK12 => ?_)
        exact (by
          refine c_region ?_
          refine l_step (y_moveV (et (gS rfl (gS rfl (gS rfl g0))) rfl)) ?_
          refine l_step (y_eql (et g0 rfl) rfl) ?_
          refine l_step (y_assignV (et g0 rfl)) ?_
          refine l_nil ?_
          refine hK12 _ _ ?_
          refine fg3 1 0 5 (gS rfl (gS rfl (gS rfl (gS rfl (gS rfl (gS rfl g0)))))) (gS rfl (gS rfl (gS rfl (gS rfl (gS rfl g0))))) g0 (fun g => ?_)
          refine c_condV (i := 5) g0 rfl (fun cB2 => ?_) (fun cB2 => ?_)
          · skip
            simp only [Bool.and_eq_true, Bool.or_eq_true, Bool.and_eq_false_imp, Bool.or_eq_false_iff, decide_eq_true_eq, decide_eq_false_iff_not] at cB2
            refine c_skip ?_
            refine hK4 _ _ ?_
            refine fg3 1 0 5 (gS rfl (gS rfl (gS rfl g0))) (gS rfl (gS rfl g0)) g0 (fun g => ?_)
            refine c_true (et g0 rfl) rfl ?_
            refine c_seq (fun K15 hK15 => ?_)
            exact (by
              refine c_region ?_
              refine l_step (y_moveV (et (gS rfl g0) rfl)) ?_
              refine l_eff (e_callV cal_63 (aC (et g0 rfl) (aC (v := .int .i64 ((0 : Nat) : Int)) rfl aN)) (yp_arg _ _ 0 _ _ _ _ _ _ hF kF (rF 8 _ rfl) (hSt.mono hL0) (by omega) (by first | decide | omega))) (fun v16 w16 h16 => ?_)
              obtain ⟨u16, n16, q16⟩ := h16
              replace G := G.tr (Go.ofUp hF u16)
              replace hF := hF.up u16
              replace kF := kF.up u16
              replace U := U.tr u16
              refine l_step (y_moveV (et (gS rfl (gS rfl (gS rfl g0))) rfl)) ?_
              refine l_eff (e_callV cal_63 (aC (et g0 rfl) (aC (v := .int .i64 ((1 : Nat) : Int)) rfl aN)) (yp_arg _ _ 1 _ _ _ _ _ _ hF kF (rF 8 _ rfl) (hSt.mono hL0) (by omega) (by first | decide | omega))) (fun v17 w17 h17 => ?_)
              obtain ⟨u17, n17, q17⟩ := h17
              replace G := G.tr (Go.ofUp hF u17)
              replace hF := hF.up u17
              replace kF := kF.up u17
              replace U := U.tr u17
              refine l_eff (e_callV cal_144 (aC (et (gS rfl (gS rfl g0)) rfl) (aC (et g0 rfl) aN)) (yp_end hF n16 n17 (bd_up (bd_W q16) (by decide)) (bd_up (bd_W q17) (by decide)))) (fun v18 w18 h18 => ?_)
              obtain ⟨H18, g18, n18⟩ := h18
              have hlew18 := g18.le
              replace n16 := n16.mono hlew18
              replace n17 := n17.mono hlew18
              replace hL0 := hL0.trans hlew18
              replace kF := kF.up g18.up
              replace U := U.tr g18.up
              replace G := G.tr g18
              replace hF := g18.fz
              have q18 := bd_end (c := 33) (bd_up (b := 32) (bd_W q16) (by decide)) (bd_up (b := 32) (bd_W q17) (by decide)) (by decide)
              refine l_step (y_assignV (et g0 rfl)) ?_
              refine l_nil ?_
              refine hK15 _ _ ?_
              refine fg1 4 g0 (fun g => ?_)
              refine c_ret ?_
              refine hQ3 _ _ _ (in_ret ?_)
              repeat with_reducible refine then_ret ?_
              refine ret1 rfl (res_tmp (et g0 rfl)) ?_
              exact ⟨_, G, n18.to (by rw [yReach, if_pos (by omega)]), by rw [yReach, if_pos (by omega)]; first | exact q18 | exact bd_up q18 (by decide)⟩)
          · skip
            simp only [Bool.and_eq_true, Bool.or_eq_true, Bool.and_eq_false_imp, Bool.or_eq_false_iff, decide_eq_true_eq, decide_eq_false_iff_not] at cB2
            refine c_seq (fun K19 hK19 => ?_)
            exact (by
              refine c_region ?_
              refine l_step (y_moveV (et (gS rfl (gS rfl (gS rfl g0))) rfl)) ?_
              refine l_step (y_eql (et g0 rfl) rfl) ?_
              refine l_step (y_assignV (et g0 rfl)) ?_
              refine l_nil ?_
              refine hK19 _ _ ?_
              refine fg3 1 0 5 (gS rfl (gS rfl (gS rfl (gS rfl (gS rfl (gS rfl g0)))))) (gS rfl (gS rfl (gS rfl (gS rfl (gS rfl g0))))) g0 (fun g => ?_)
              refine c_condV (i := 5) g0 rfl (fun cB3 => ?_) (fun cB3 => ?_)
              · skip
                simp only [Bool.and_eq_true, Bool.or_eq_true, Bool.and_eq_false_imp, Bool.or_eq_false_iff, decide_eq_true_eq, decide_eq_false_iff_not] at cB3
                refine c_skip ?_
                refine hK4 _ _ ?_
                refine fg3 1 0 5 (gS rfl (gS rfl (gS rfl g0))) (gS rfl (gS rfl g0)) g0 (fun g => ?_)
                refine c_true (et g0 rfl) rfl ?_
                refine c_seq (fun K22 hK22 => ?_)
                exact (by
                  refine c_region ?_
                  refine l_step (y_moveV (et (gS rfl g0) rfl)) ?_
                  refine l_eff (e_callV cal_63 (aC (et g0 rfl) (aC (v := .int .i64 ((0 : Nat) : Int)) rfl aN)) (yp_arg _ _ 0 _ _ _ _ _ _ hF kF (rF 8 _ rfl) (hSt.mono hL0) (by omega) (by first | decide | omega))) (fun v23 w23 h23 => ?_)
                  obtain ⟨u23, n23, q23⟩ := h23
                  replace G := G.tr (Go.ofUp hF u23)
                  replace hF := hF.up u23
                  replace kF := kF.up u23
                  replace U := U.tr u23
                  refine l_step (y_moveV (et (gS rfl (gS rfl (gS rfl g0))) rfl)) ?_
                  refine l_eff (e_callV cal_63 (aC (et g0 rfl) (aC (v := .int .i64 ((1 : Nat) : Int)) rfl aN)) (yp_arg _ _ 1 _ _ _ _ _ _ hF kF (rF 8 _ rfl) (hSt.mono hL0) (by omega) (by first | decide | omega))) (fun v24 w24 h24 => ?_)
                  obtain ⟨u24, n24, q24⟩ := h24
                  replace G := G.tr (Go.ofUp hF u24)
                  replace hF := hF.up u24
                  replace kF := kF.up u24
                  replace U := U.tr u24
                  refine l_eff (e_callV cal_144 (aC (et (gS rfl (gS rfl g0)) rfl) (aC (et g0 rfl) aN)) (yp_end hF n23 n24 (bd_up (bd_W q23) (by decide)) (bd_up (bd_W q24) (by decide)))) (fun v25 w25 h25 => ?_)
                  obtain ⟨H25, g25, n25⟩ := h25
                  have hlew25 := g25.le
                  replace n23 := n23.mono hlew25
                  replace n24 := n24.mono hlew25
                  replace hL0 := hL0.trans hlew25
                  replace kF := kF.up g25.up
                  replace U := U.tr g25.up
                  replace G := G.tr g25
                  replace hF := g25.fz
                  have q25 := bd_end (c := 33) (bd_up (b := 32) (bd_W q23) (by decide)) (bd_up (b := 32) (bd_W q24) (by decide)) (by decide)
                  refine l_step (y_assignV (et g0 rfl)) ?_
                  refine l_nil ?_
                  refine hK22 _ _ ?_
                  refine fg1 4 g0 (fun g => ?_)
                  refine c_ret ?_
                  refine hQ3 _ _ _ (in_ret ?_)
                  repeat with_reducible refine then_ret ?_
                  refine ret1 rfl (res_tmp (et g0 rfl)) ?_
                  exact ⟨_, G, n25.to (by rw [yReach, if_pos (by omega)]), by rw [yReach, if_pos (by omega)]; first | exact q25 | exact bd_up q25 (by decide)⟩)
              · skip
                simp only [Bool.and_eq_true, Bool.or_eq_true, Bool.and_eq_false_imp, Bool.or_eq_false_iff, decide_eq_true_eq, decide_eq_false_iff_not] at cB3
                refine c_region ?_
                refine l_step (y_moveV (et (gS rfl (gS rfl (gS rfl g0))) rfl)) ?_
                refine l_step (y_geq (et g0 rfl) rfl) ?_
                refine l_step (y_moveV (et g0 rfl)) ?_
                refine l_gpure (j := 2) (t := 14) (by exact rfl) (by exact rfl) (et g0 rfl) rfl (fun hc => (y_moveV (et (gS rfl (gS rfl (gS rfl (gS rfl (gS rfl (gS rfl g0)))))) rfl))) ?_
                refine l_gpure (j := 2) (t := 14) (by exact rfl) (by exact rfl) (et (gS rfl g0) rfl) rfl (fun hc => (y_leq (et (cT g0 hc) rfl) rfl)) ?_
                refine l_step (y_pickA (et (gS rfl (gS rfl g0)) rfl) (et g0 rfl) rfl) ?_
                refine l_step (y_assignV (et g0 rfl)) ?_
                refine l_nil ?_
                refine hK4 _ _ ?_
                refine fg3 1 0 5 (gS rfl (gS rfl (gS rfl (gS rfl (gS rfl (gS rfl (gS rfl (gS rfl (gS rfl (gS rfl g0)))))))))) (gS rfl (gS rfl (gS rfl (gS rfl (gS rfl (gS rfl (gS rfl (gS rfl (gS rfl g0))))))))) g0 (fun g => ?_)
                refine c_condV (i := 5) g0 rfl (fun cB4 => ?_) (fun cB4 => ?_)
                · skip
                  simp only [Bool.and_eq_true, Bool.or_eq_true, Bool.and_eq_false_imp, Bool.or_eq_false_iff, decide_eq_true_eq, decide_eq_false_iff_not] at cB4
                  refine c_seq (fun K27 hK27 => ?_)
                  exact (by
                    refine c_region ?_
                    refine l_step (y_moveV (et (gS rfl (gS rfl g0)) rfl)) ?_
                    refine l_eff (e_callV cal_63 (aC (et g0 rfl) (aC (v := .int .i64 ((0 : Nat) : Int)) rfl aN)) (yp_arg _ _ 0 _ _ _ _ _ _ hF kF (rF 8 _ rfl) (hSt.mono hL0) (by omega) (by first | decide | omega))) (fun v28 w28 h28 => ?_)
                    obtain ⟨u28, n28, q28⟩ := h28
                    replace G := G.tr (Go.ofUp hF u28)
                    replace hF := hF.up u28
                    replace kF := kF.up u28
                    replace U := U.tr u28
                    refine l_step (y_moveV (et (gS rfl (gS rfl (gS rfl (gS rfl g0)))) rfl)) ?_
                    refine l_eff (e_callV cal_63 (aC (et g0 rfl) (aC (v := .int .i64 ((1 : Nat) : Int)) rfl aN)) (yp_arg _ _ 1 _ _ _ _ _ _ hF kF (rF 8 _ rfl) (hSt.mono hL0) (by omega) (by first | decide | omega))) (fun v29 w29 h29 => ?_)
                    obtain ⟨u29, n29, q29⟩ := h29
                    replace G := G.tr (Go.ofUp hF u29)
                    replace hF := hF.up u29
                    replace kF := kF.up u29
                    replace U := U.tr u29
                    refine l_eff (e_callV cal_144 (aC (et (gS rfl (gS rfl g0)) rfl) (aC (et g0 rfl) aN)) (yp_end hF n28 n29 (bd_up (bd_W q28) (by decide)) (bd_up (bd_W q29) (by decide)))) (fun v30 w30 h30 => ?_)
                    obtain ⟨H30, g30, n30⟩ := h30
                    have hlew30 := g30.le
                    replace n28 := n28.mono hlew30
                    replace n29 := n29.mono hlew30
                    replace hL0 := hL0.trans hlew30
                    replace kF := kF.up g30.up
                    replace U := U.tr g30.up
                    replace G := G.tr g30
                    replace hF := g30.fz
                    have q30 := bd_end (c := 33) (bd_up (b := 32) (bd_W q28) (by decide)) (bd_up (b := 32) (bd_W q29) (by decide)) (by decide)
                    refine l_step (y_assignV (et g0 rfl)) ?_
                    refine l_nil ?_
                    refine hK27 _ _ ?_
                    refine fg1 4 g0 (fun g => ?_)
                    refine c_ret ?_
                    refine hQ3 _ _ _ (in_ret ?_)
                    repeat with_reducible refine then_ret ?_
                    refine ret1 rfl (res_tmp (et g0 rfl)) ?_
                    exact ⟨_, G, n30.to (by rw [yReach, if_pos (by omega)]), by rw [yReach, if_pos (by omega)]; first | exact q30 | exact bd_up q30 (by decide)⟩)
                · skip
                  simp only [Bool.and_eq_true, Bool.or_eq_true, Bool.and_eq_false_imp, Bool.or_eq_false_iff, decide_eq_true_eq, decide_eq_false_iff_not] at cB4
                  refine c_seq (fun K31 hK31 => ?_)
                  refine c_seq (fun K32 hK32 => ?_)
                  exact (by
                    refine c_region ?_
                    refine l_step (y_moveV (et (gS rfl (gS rfl (gS rfl g0))) rfl)) ?_
                    refine l_step (y_eql (et g0 rfl) rfl) ?_
                    refine l_step (y_assignV (et g0 rfl)) ?_
                    refine l_nil ?_
                    refine hK32 _ _ ?_
                    refine fg3 1 0 23 (gS rfl (gS rfl (gS rfl (gS rfl (gS rfl (gS rfl g0)))))) (gS rfl (gS rfl (gS rfl (gS rfl (gS rfl g0))))) g0 (fun g => ?_)
                    refine c_condV (i := 23) g0 rfl (fun cB5 => ?_) (fun cB5 => ?_)
                    · skip
                      simp only [Bool.and_eq_true, Bool.or_eq_true, Bool.and_eq_false_imp, Bool.or_eq_false_iff, decide_eq_true_eq, decide_eq_false_iff_not] at cB5
                      refine c_skip ?_
                      refine hK31 _ _ ?_
                      refine fg3 1 0 23 (gS rfl (gS rfl (gS rfl g0))) (gS rfl (gS rfl g0)) g0 (fun g => ?_)
                      refine c_true (et g0 rfl) rfl ?_
                      refine c_seq (fun K35 hK35 => ?_)
                      exact (by
                        refine c_region ?_
                        refine l_step (y_moveV (et (gS rfl g0) rfl)) ?_
                        refine l_eff (e_callV cal_63 (aC (et g0 rfl) (aC (v := .int .i64 ((0 : Nat) : Int)) rfl aN)) (yp_arg _ _ 0 _ _ _ _ _ _ hF kF (rF 8 _ rfl) (hSt.mono hL0) (by omega) (by first | decide | omega))) (fun v36 w36 h36 => ?_)
                        obtain ⟨u36, n36, q36⟩ := h36
                        replace G := G.tr (Go.ofUp hF u36)
                        replace hF := hF.up u36
                        replace kF := kF.up u36
                        replace U := U.tr u36
                        refine l_step (y_moveV (et (gS rfl (gS rfl (gS rfl g0))) rfl)) ?_
                        refine l_eff (e_callV cal_63 (aC (et g0 rfl) (aC (v := .int .i64 ((2 : Nat) : Int)) rfl aN)) (yp_arg _ _ 2 _ _ _ _ _ _ hF kF (rF 8 _ rfl) (hSt.mono hL0) (by omega) (by first | decide | omega))) (fun v37 w37 h37 => ?_)
                        obtain ⟨u37, n37, q37⟩ := h37
                        replace G := G.tr (Go.ofUp hF u37)
                        replace hF := hF.up u37
                        replace kF := kF.up u37
                        replace U := U.tr u37
                        refine l_eff (e_callV cal_144 (aC (et (gS rfl (gS rfl g0)) rfl) (aC (et g0 rfl) aN)) (yp_end hF n36 n37 (bd_up (bd_W q36) (by decide)) (bd_up (bd_W q37) (by decide)))) (fun v38 w38 h38 => ?_)
                        obtain ⟨H38, g38, n38⟩ := h38
                        have hlew38 := g38.le
                        replace n36 := n36.mono hlew38
                        replace n37 := n37.mono hlew38
                        replace hL0 := hL0.trans hlew38
                        replace kF := kF.up g38.up
                        replace U := U.tr g38.up
                        replace G := G.tr g38
                        replace hF := g38.fz
                        have q38 := bd_end (c := 33) (bd_up (b := 32) (bd_W q36) (by decide)) (bd_up (b := 32) (bd_W q37) (by decide)) (by decide)
                        refine l_step (y_assignV (et g0 rfl)) ?_
                        refine l_nil ?_
                        refine hK35 _ _ ?_
                        refine fg1 4 g0 (fun g => ?_)
                        refine c_ret ?_
                        refine hQ3 _ _ _ (in_ret ?_)
                        repeat with_reducible refine then_ret ?_
                        refine ret1 rfl (res_tmp (et g0 rfl)) ?_
                        exact ⟨_, G, n38.to (by rw [yReach, if_neg (by omega), if_pos (by omega)]), by rw [yReach, if_neg (by omega), if_pos (by omega)]; first | exact q38 | exact bd_up q38 (by decide)⟩)
                    · skip
                      simp only [Bool.and_eq_true, Bool.or_eq_true, Bool.and_eq_false_imp, Bool.or_eq_false_iff, decide_eq_true_eq, decide_eq_false_iff_not] at cB5
                      refine c_seq (fun K39 hK39 => ?_)
                      exact (by
                        refine c_region ?_
                        refine l_step (y_moveV (et (gS rfl (gS rfl (gS rfl g0))) rfl)) ?_
                        refine l_step (y_eql (et g0 rfl) rfl) ?_
                        refine l_step (y_assignV (et g0 rfl)) ?_
                        refine l_nil ?_
                        refine hK39 _ _ ?_
                        refine fg3 1 0 23 (gS rfl (gS rfl (gS rfl (gS rfl (gS rfl (gS rfl g0)))))) (gS rfl (gS rfl (gS rfl (gS rfl (gS rfl g0))))) g0 (fun g => ?_)
                        refine c_condV (i := 23) g0 rfl (fun cB6 => ?_) (fun cB6 => ?_)
                        · skip
                          simp only [Bool.and_eq_true, Bool.or_eq_true, Bool.and_eq_false_imp, Bool.or_eq_false_iff, decide_eq_true_eq, decide_eq_false_iff_not] at cB6
                          refine c_skip ?_
                          refine hK31 _ _ ?_
                          refine fg3 1 0 23 (gS rfl (gS rfl (gS rfl g0))) (gS rfl (gS rfl g0)) g0 (fun g => ?_)
                          refine c_true (et g0 rfl) rfl ?_
                          refine c_seq (fun K42 hK42 => ?_)
                          exact (by
                            refine c_region ?_
                            refine l_step (y_moveV (et (gS rfl g0) rfl)) ?_
                            refine l_eff (e_callV cal_63 (aC (et g0 rfl) (aC (v := .int .i64 ((0 : Nat) : Int)) rfl aN)) (yp_arg _ _ 0 _ _ _ _ _ _ hF kF (rF 8 _ rfl) (hSt.mono hL0) (by omega) (by first | decide | omega))) (fun v43 w43 h43 => ?_)
                            obtain ⟨u43, n43, q43⟩ := h43
                            replace G := G.tr (Go.ofUp hF u43)
                            replace hF := hF.up u43
                            replace kF := kF.up u43
                            replace U := U.tr u43
                            refine l_step (y_moveV (et (gS rfl (gS rfl (gS rfl g0))) rfl)) ?_
                            refine l_eff (e_callV cal_63 (aC (et g0 rfl) (aC (v := .int .i64 ((2 : Nat) : Int)) rfl aN)) (yp_arg _ _ 2 _ _ _ _ _ _ hF kF (rF 8 _ rfl) (hSt.mono hL0) (by omega) (by first | decide | omega))) (fun v44 w44 h44 => ?_)
                            obtain ⟨u44, n44, q44⟩ := h44
                            replace G := G.tr (Go.ofUp hF u44)
                            replace hF := hF.up u44
                            replace kF := kF.up u44
                            replace U := U.tr u44
                            refine l_eff (e_callV cal_144 (aC (et (gS rfl (gS rfl g0)) rfl) (aC (et g0 rfl) aN)) (yp_end hF n43 n44 (bd_up (bd_W q43) (by decide)) (bd_up (bd_W q44) (by decide)))) (fun v45 w45 h45 => ?_)
                            obtain ⟨H45, g45, n45⟩ := h45
                            have hlew45 := g45.le
                            replace n43 := n43.mono hlew45
                            replace n44 := n44.mono hlew45
                            replace hL0 := hL0.trans hlew45
                            replace kF := kF.up g45.up
                            replace U := U.tr g45.up
                            replace G := G.tr g45
                            replace hF := g45.fz
                            have q45 := bd_end (c := 33) (bd_up (b := 32) (bd_W q43) (by decide)) (bd_up (b := 32) (bd_W q44) (by decide)) (by decide)
                            refine l_step (y_assignV (et g0 rfl)) ?_
                            refine l_nil ?_
                            refine hK42 _ _ ?_
                            refine fg1 4 g0 (fun g => ?_)
                            refine c_ret ?_
                            refine hQ3 _ _ _ (in_ret ?_)
                            repeat with_reducible refine then_ret ?_
                            refine ret1 rfl (res_tmp (et g0 rfl)) ?_
                            exact ⟨_, G, n45.to (by rw [yReach, if_neg (by omega), if_pos (by omega)]), by rw [yReach, if_neg (by omega), if_pos (by omega)]; first | exact q45 | exact bd_up q45 (by decide)⟩)
                        · skip
                          simp only [Bool.and_eq_true, Bool.or_eq_true, Bool.and_eq_false_imp, Bool.or_eq_false_iff, decide_eq_true_eq, decide_eq_false_iff_not] at cB6
                          refine c_region ?_
                          refine l_step (y_moveV (et (gS rfl (gS rfl (gS rfl g0))) rfl)) ?_
                          refine l_step (y_eql (et g0 rfl) rfl) ?_
                          refine l_step (y_assignV (et g0 rfl)) ?_
                          refine l_nil ?_
                          refine hK31 _ _ ?_
                          refine fg3 1 0 23 (gS rfl (gS rfl (gS rfl (gS rfl (gS rfl (gS rfl g0)))))) (gS rfl (gS rfl (gS rfl (gS rfl (gS rfl g0))))) g0 (fun g => ?_)
                          refine c_condV (i := 23) g0 rfl (fun cB7 => ?_) (fun cB7 => ?_)
                          · skip
                            simp only [Bool.and_eq_true, Bool.or_eq_true, Bool.and_eq_false_imp, Bool.or_eq_false_iff, decide_eq_true_eq, decide_eq_false_iff_not] at cB7
                            refine c_seq (fun K47 hK47 => ?_)
                            exact (by
                              refine c_region ?_
                              refine l_step (y_moveV (et (gS rfl (gS rfl g0)) rfl)) ?_
                              refine l_eff (e_callV cal_63 (aC (et g0 rfl) (aC (v := .int .i64 ((0 : Nat) : Int)) rfl aN)) (yp_arg _ _ 0 _ _ _ _ _ _ hF kF (rF 8 _ rfl) (hSt.mono hL0) (by omega) (by first | decide | omega))) (fun v48 w48 h48 => ?_)
                              obtain ⟨u48, n48, q48⟩ := h48
                              replace G := G.tr (Go.ofUp hF u48)
                              replace hF := hF.up u48
                              replace kF := kF.up u48
                              replace U := U.tr u48
                              refine l_step (y_moveV (et (gS rfl (gS rfl (gS rfl (gS rfl g0)))) rfl)) ?_
                              refine l_eff (e_callV cal_63 (aC (et g0 rfl) (aC (v := .int .i64 ((2 : Nat) : Int)) rfl aN)) (yp_arg _ _ 2 _ _ _ _ _ _ hF kF (rF 8 _ rfl) (hSt.mono hL0) (by omega) (by first | decide | omega))) (fun v49 w49 h49 => ?_)
                              obtain ⟨u49, n49, q49⟩ := h49
                              replace G := G.tr (Go.ofUp hF u49)
                              replace hF := hF.up u49
                              replace kF := kF.up u49
                              replace U := U.tr u49
                              refine l_eff (e_callV cal_144 (aC (et (gS rfl (gS rfl g0)) rfl) (aC (et g0 rfl) aN)) (yp_end hF n48 n49 (bd_up (bd_W q48) (by decide)) (bd_up (bd_W q49) (by decide)))) (fun v50 w50 h50 => ?_)
                              obtain ⟨H50, g50, n50⟩ := h50
                              have hlew50 := g50.le
                              replace n48 := n48.mono hlew50
                              replace n49 := n49.mono hlew50
                              replace hL0 := hL0.trans hlew50
                              replace kF := kF.up g50.up
                              replace U := U.tr g50.up
                              replace G := G.tr g50
                              replace hF := g50.fz
                              have q50 := bd_end (c := 33) (bd_up (b := 32) (bd_W q48) (by decide)) (bd_up (b := 32) (bd_W q49) (by decide)) (by decide)
                              refine l_step (y_assignV (et g0 rfl)) ?_
                              refine l_nil ?_
                              refine hK47 _ _ ?_
                              refine fg1 4 g0 (fun g => ?_)
                              refine c_ret ?_
                              refine hQ3 _ _ _ (in_ret ?_)
                              repeat with_reducible refine then_ret ?_
                              refine ret1 rfl (res_tmp (et g0 rfl)) ?_
                              exact ⟨_, G, n50.to (by rw [yReach, if_neg (by omega), if_pos (by omega)]), by rw [yReach, if_neg (by omega), if_pos (by omega)]; first | exact q50 | exact bd_up q50 (by decide)⟩)
                          · skip
                            simp only [Bool.and_eq_true, Bool.or_eq_true, Bool.and_eq_false_imp, Bool.or_eq_false_iff, decide_eq_true_eq, decide_eq_false_iff_not] at cB7
                            refine c_seq (fun K51 hK51 => ?_)
                            exact (by
                              refine c_region ?_
                              refine l_step (y_moveV (et (gS rfl (gS rfl (gS rfl g0))) rfl)) ?_
                              refine l_step (y_eql (et g0 rfl) rfl) ?_
                              refine l_step (y_assignV (et g0 rfl)) ?_
                              refine l_nil ?_
                              refine hK51 _ _ ?_
                              refine fg3 1 0 35 (gS rfl (gS rfl (gS rfl (gS rfl (gS rfl (gS rfl g0)))))) (gS rfl (gS rfl (gS rfl (gS rfl (gS rfl g0))))) g0 (fun g => ?_)
                              refine c_condV (i := 35) g0 rfl (fun cB8 => ?_) (fun cB8 => ?_)
                              · skip
                                simp only [Bool.and_eq_true, Bool.or_eq_true, Bool.and_eq_false_imp, Bool.or_eq_false_iff, decide_eq_true_eq, decide_eq_false_iff_not] at cB8
                                refine c_seq (fun K53 hK53 => ?_)
                                exact (by
                                  refine c_region ?_
                                  refine l_step (y_moveV (et (gS rfl (gS rfl g0)) rfl)) ?_
                                  refine l_eff (e_callV cal_63 (aC (et g0 rfl) (aC (v := .int .i64 ((1 : Nat) : Int)) rfl aN)) (yp_arg _ _ 1 _ _ _ _ _ _ hF kF (rF 8 _ rfl) (hSt.mono hL0) (by omega) (by first | decide | omega))) (fun v54 w54 h54 => ?_)
                                  obtain ⟨u54, n54, q54⟩ := h54
                                  replace G := G.tr (Go.ofUp hF u54)
                                  replace hF := hF.up u54
                                  replace kF := kF.up u54
                                  replace U := U.tr u54
                                  refine l_step (y_moveV (et (gS rfl (gS rfl (gS rfl (gS rfl g0)))) rfl)) ?_
                                  refine l_eff (e_callV cal_63 (aC (et g0 rfl) (aC (v := .int .i64 ((3 : Nat) : Int)) rfl aN)) (yp_arg _ _ 3 _ _ _ _ _ _ hF kF (rF 8 _ rfl) (hSt.mono hL0) (by omega) (by first | decide | omega))) (fun v55 w55 h55 => ?_)
                                  obtain ⟨u55, n55, q55⟩ := h55
                                  replace G := G.tr (Go.ofUp hF u55)
                                  replace hF := hF.up u55
                                  replace kF := kF.up u55
                                  replace U := U.tr u55
                                  refine l_eff (e_callV cal_144 (aC (et (gS rfl (gS rfl g0)) rfl) (aC (et g0 rfl) aN)) (yp_end hF n54 n55 (bd_up (bd_W q54) (by decide)) (bd_up (bd_W q55) (by decide)))) (fun v56 w56 h56 => ?_)
                                  obtain ⟨H56, g56, n56⟩ := h56
                                  have hlew56 := g56.le
                                  replace n54 := n54.mono hlew56
                                  replace n55 := n55.mono hlew56
                                  replace hL0 := hL0.trans hlew56
                                  replace kF := kF.up g56.up
                                  replace U := U.tr g56.up
                                  replace G := G.tr g56
                                  replace hF := g56.fz
                                  have q56 := bd_end (c := 33) (bd_up (b := 32) (bd_W q54) (by decide)) (bd_up (b := 32) (bd_W q55) (by decide)) (by decide)
                                  refine l_step (y_assignV (et g0 rfl)) ?_
                                  refine l_nil ?_
                                  refine hK53 _ _ ?_
                                  refine fg1 4 g0 (fun g => ?_)
                                  refine c_ret ?_
                                  refine hQ3 _ _ _ (in_ret ?_)
                                  repeat with_reducible refine then_ret ?_
                                  refine ret1 rfl (res_tmp (et g0 rfl)) ?_
                                  exact ⟨_, G, n56.to (by rw [yReach, if_neg (by omega), if_neg (by omega), if_pos (by omega)]), by rw [yReach, if_neg (by omega), if_neg (by omega), if_pos (by omega)]; first | exact q56 | exact bd_up q56 (by decide)⟩)
                              · skip
                                simp only [Bool.and_eq_true, Bool.or_eq_true, Bool.and_eq_false_imp, Bool.or_eq_false_iff, decide_eq_true_eq, decide_eq_false_iff_not] at cB8
                                refine c_seq (fun K57 hK57 => ?_)
                                refine c_seq (fun K58 hK58 => ?_)
                                exact (by
                                  refine c_region ?_
                                  refine l_step (y_moveV (et (gS rfl (gS rfl (gS rfl g0))) rfl)) ?_
                                  refine l_step (y_eql (et g0 rfl) rfl) ?_
                                  refine l_step (y_assignV (et g0 rfl)) ?_
                                  refine l_nil ?_
                                  refine hK58 _ _ ?_
                                  refine fg3 1 0 43 (gS rfl (gS rfl (gS rfl (gS rfl (gS rfl (gS rfl g0)))))) (gS rfl (gS rfl (gS rfl (gS rfl (gS rfl g0))))) g0 (fun g => ?_)
                                  refine c_condV (i := 43) g0 rfl (fun cB9 => ?_) (fun cB9 => ?_)
                                  · skip
                                    simp only [Bool.and_eq_true, Bool.or_eq_true, Bool.and_eq_false_imp, Bool.or_eq_false_iff, decide_eq_true_eq, decide_eq_false_iff_not] at cB9
                                    refine c_skip ?_
                                    refine hK57 _ _ ?_
                                    refine fg3 1 0 43 (gS rfl (gS rfl (gS rfl g0))) (gS rfl (gS rfl g0)) g0 (fun g => ?_)
                                    refine c_true (et g0 rfl) rfl ?_
                                    refine c_seq (fun K61 hK61 => ?_)
                                    exact (by
                                      refine c_region ?_
                                      refine l_step (y_moveV (et (gS rfl g0) rfl)) ?_
                                      refine l_eff (e_callV cal_63 (aC (et g0 rfl) (aC (v := .int .i64 ((0 : Nat) : Int)) rfl aN)) (yp_arg _ _ 0 _ _ _ _ _ _ hF kF (rF 8 _ rfl) (hSt.mono hL0) (by omega) (by first | decide | omega))) (fun v62 w62 h62 => ?_)
                                      obtain ⟨u62, n62, q62⟩ := h62
                                      replace G := G.tr (Go.ofUp hF u62)
                                      replace hF := hF.up u62
                                      replace kF := kF.up u62
                                      replace U := U.tr u62
                                      refine l_eff (e_callV cal_32 (aC (v := .int .u64 ((32 : Nat) : Int)) rfl aN) (yp_num (x := 32) hF (by decide))) (fun v63 w63 h63 => ?_)
                                      obtain ⟨H63, g63, n63⟩ := h63
                                      have hlew63 := g63.le
                                      replace n62 := n62.mono hlew63
                                      replace hL0 := hL0.trans hlew63
                                      replace kF := kF.up g63.up
                                      replace U := U.tr g63.up
                                      replace G := G.tr g63
                                      replace hF := g63.fz
                                      have q63 : 32 < 256 ^ 1 := by decide
                                      refine l_eff (e_callV cal_144 (aC (et (gS rfl g0) rfl) (aC (et g0 rfl) aN)) (yp_end hF n62 n63 (bd_up (bd_W q62) (by decide)) (bd_up q63 (by decide)))) (fun v64 w64 h64 => ?_)
                                      obtain ⟨H64, g64, n64⟩ := h64
                                      have hlew64 := g64.le
                                      replace n62 := n62.mono hlew64
                                      replace n63 := n63.mono hlew64
                                      replace hL0 := hL0.trans hlew64
                                      replace kF := kF.up g64.up
                                      replace U := U.tr g64.up
                                      replace G := G.tr g64
                                      replace hF := g64.fz
                                      have q64 := bd_end (c := 33) (bd_up (b := 32) (bd_W q62) (by decide)) (bd_up (b := 32) q63 (by decide)) (by decide)
                                      refine l_step (y_assignV (et g0 rfl)) ?_
                                      refine l_nil ?_
                                      refine hK61 _ _ ?_
                                      refine fg1 4 g0 (fun g => ?_)
                                      refine c_ret ?_
                                      refine hQ3 _ _ _ (in_ret ?_)
                                      repeat with_reducible refine then_ret ?_
                                      refine ret1 rfl (res_tmp (et g0 rfl)) ?_
                                      exact ⟨_, G, n64.to (by rw [yReach, if_neg (by omega), if_neg (by omega), if_neg (by omega), if_pos (by omega)]), by rw [yReach, if_neg (by omega), if_neg (by omega), if_neg (by omega), if_pos (by omega)]; first | exact q64 | exact bd_up q64 (by decide)⟩)
                                  · skip
                                    simp only [Bool.and_eq_true, Bool.or_eq_true, Bool.and_eq_false_imp, Bool.or_eq_false_iff, decide_eq_true_eq, decide_eq_false_iff_not] at cB9
                                    refine c_region ?_
                                    refine l_step (y_moveV (et (gS rfl (gS rfl (gS rfl g0))) rfl)) ?_
                                    refine l_step (y_eql (et g0 rfl) rfl) ?_
                                    refine l_step (y_assignV (et g0 rfl)) ?_
                                    refine l_nil ?_
                                    refine hK57 _ _ ?_
                                    refine fg3 1 0 43 (gS rfl (gS rfl (gS rfl (gS rfl (gS rfl (gS rfl g0)))))) (gS rfl (gS rfl (gS rfl (gS rfl (gS rfl g0))))) g0 (fun g => ?_)
                                    refine c_condV (i := 43) g0 rfl (fun cB10 => ?_) (fun cB10 => ?_)
                                    · skip
                                      simp only [Bool.and_eq_true, Bool.or_eq_true, Bool.and_eq_false_imp, Bool.or_eq_false_iff, decide_eq_true_eq, decide_eq_false_iff_not] at cB10
                                      refine c_seq (fun K66 hK66 => ?_)
                                      exact (by
                                        refine c_region ?_
                                        refine l_step (y_moveV (et (gS rfl (gS rfl g0)) rfl)) ?_
                                        refine l_eff (e_callV cal_63 (aC (et g0 rfl) (aC (v := .int .i64 ((0 : Nat) : Int)) rfl aN)) (yp_arg _ _ 0 _ _ _ _ _ _ hF kF (rF 8 _ rfl) (hSt.mono hL0) (by omega) (by first | decide | omega))) (fun v67 w67 h67 => ?_)
                                        obtain ⟨u67, n67, q67⟩ := h67
                                        replace G := G.tr (Go.ofUp hF u67)
                                        replace hF := hF.up u67
                                        replace kF := kF.up u67
                                        replace U := U.tr u67
                                        refine l_eff (e_callV cal_32 (aC (v := .int .u64 ((32 : Nat) : Int)) rfl aN) (yp_num (x := 32) hF (by decide))) (fun v68 w68 h68 => ?_)
                                        obtain ⟨H68, g68, n68⟩ := h68
                                        have hlew68 := g68.le
                                        replace n67 := n67.mono hlew68
                                        replace hL0 := hL0.trans hlew68
                                        replace kF := kF.up g68.up
                                        replace U := U.tr g68.up
                                        replace G := G.tr g68
                                        replace hF := g68.fz
                                        have q68 : 32 < 256 ^ 1 := by decide
                                        refine l_eff (e_callV cal_144 (aC (et (gS rfl g0) rfl) (aC (et g0 rfl) aN)) (yp_end hF n67 n68 (bd_up (bd_W q67) (by decide)) (bd_up q68 (by decide)))) (fun v69 w69 h69 => ?_)
                                        obtain ⟨H69, g69, n69⟩ := h69
                                        have hlew69 := g69.le
                                        replace n67 := n67.mono hlew69
                                        replace n68 := n68.mono hlew69
                                        replace hL0 := hL0.trans hlew69
                                        replace kF := kF.up g69.up
                                        replace U := U.tr g69.up
                                        replace G := G.tr g69
                                        replace hF := g69.fz
                                        have q69 := bd_end (c := 33) (bd_up (b := 32) (bd_W q67) (by decide)) (bd_up (b := 32) q68 (by decide)) (by decide)
                                        refine l_step (y_assignV (et g0 rfl)) ?_
                                        refine l_nil ?_
                                        refine hK66 _ _ ?_
                                        refine fg1 4 g0 (fun g => ?_)
                                        refine c_ret ?_
                                        refine hQ3 _ _ _ (in_ret ?_)
                                        repeat with_reducible refine then_ret ?_
                                        refine ret1 rfl (res_tmp (et g0 rfl)) ?_
                                        exact ⟨_, G, n69.to (by rw [yReach, if_neg (by omega), if_neg (by omega), if_neg (by omega), if_pos (by omega)]), by rw [yReach, if_neg (by omega), if_neg (by omega), if_neg (by omega), if_pos (by omega)]; first | exact q69 | exact bd_up q69 (by decide)⟩)
                                    · skip
                                      simp only [Bool.and_eq_true, Bool.or_eq_true, Bool.and_eq_false_imp, Bool.or_eq_false_iff, decide_eq_true_eq, decide_eq_false_iff_not] at cB10
                                      refine c_seq (fun K70 hK70 => ?_)
                                      exact (by
                                        refine c_region ?_
                                        refine l_step (y_moveV (et (gS rfl (gS rfl (gS rfl g0))) rfl)) ?_
                                        refine l_step (y_eql (et g0 rfl) rfl) ?_
                                        refine l_step (y_assignV (et g0 rfl)) ?_
                                        refine l_nil ?_
                                        refine hK70 _ _ ?_
                                        refine fg3 1 0 52 (gS rfl (gS rfl (gS rfl (gS rfl (gS rfl (gS rfl g0)))))) (gS rfl (gS rfl (gS rfl (gS rfl (gS rfl g0))))) g0 (fun g => ?_)
                                        refine c_condV (i := 52) g0 rfl (fun cB11 => ?_) (fun cB11 => ?_)
                                        · skip
                                          simp only [Bool.and_eq_true, Bool.or_eq_true, Bool.and_eq_false_imp, Bool.or_eq_false_iff, decide_eq_true_eq, decide_eq_false_iff_not] at cB11
                                          refine c_seq (fun K72 hK72 => ?_)
                                          exact (by
                                            refine c_region ?_
                                            refine l_step (y_moveV (et (gS rfl (gS rfl g0)) rfl)) ?_
                                            refine l_eff (e_callV cal_63 (aC (et g0 rfl) (aC (v := .int .i64 ((0 : Nat) : Int)) rfl aN)) (yp_arg _ _ 0 _ _ _ _ _ _ hF kF (rF 8 _ rfl) (hSt.mono hL0) (by omega) (by first | decide | omega))) (fun v73 w73 h73 => ?_)
                                            obtain ⟨u73, n73, q73⟩ := h73
                                            replace G := G.tr (Go.ofUp hF u73)
                                            replace hF := hF.up u73
                                            replace kF := kF.up u73
                                            replace U := U.tr u73
                                            refine l_eff (e_callV cal_32 (aC (v := .int .u64 ((1 : Nat) : Int)) rfl aN) (yp_num (x := 1) hF (by decide))) (fun v74 w74 h74 => ?_)
                                            obtain ⟨H74, g74, n74⟩ := h74
                                            have hlew74 := g74.le
                                            replace n73 := n73.mono hlew74
                                            replace hL0 := hL0.trans hlew74
                                            replace kF := kF.up g74.up
                                            replace U := U.tr g74.up
                                            replace G := G.tr g74
                                            replace hF := g74.fz
                                            have q74 : 1 < 256 ^ 1 := by decide
                                            refine l_eff (e_callV cal_144 (aC (et (gS rfl g0) rfl) (aC (et g0 rfl) aN)) (yp_end hF n73 n74 (bd_up (bd_W q73) (by decide)) (bd_up q74 (by decide)))) (fun v75 w75 h75 => ?_)
                                            obtain ⟨H75, g75, n75⟩ := h75
                                            have hlew75 := g75.le
                                            replace n73 := n73.mono hlew75
                                            replace n74 := n74.mono hlew75
                                            replace hL0 := hL0.trans hlew75
                                            replace kF := kF.up g75.up
                                            replace U := U.tr g75.up
                                            replace G := G.tr g75
                                            replace hF := g75.fz
                                            have q75 := bd_end (c := 33) (bd_up (b := 32) (bd_W q73) (by decide)) (bd_up (b := 32) q74 (by decide)) (by decide)
                                            refine l_step (y_assignV (et g0 rfl)) ?_
                                            refine l_nil ?_
                                            refine hK72 _ _ ?_
                                            refine fg1 4 g0 (fun g => ?_)
                                            refine c_ret ?_
                                            refine hQ3 _ _ _ (in_ret ?_)
                                            repeat with_reducible refine then_ret ?_
                                            refine ret1 rfl (res_tmp (et g0 rfl)) ?_
                                            exact ⟨_, G, n75.to (by rw [yReach, if_neg (by omega), if_neg (by omega), if_neg (by omega), if_neg (by omega), if_pos (by omega)]), by rw [yReach, if_neg (by omega), if_neg (by omega), if_neg (by omega), if_neg (by omega), if_pos (by omega)]; first | exact q75 | exact bd_up q75 (by decide)⟩)
                                        · skip
                                          simp only [Bool.and_eq_true, Bool.or_eq_true, Bool.and_eq_false_imp, Bool.or_eq_false_iff, decide_eq_true_eq, decide_eq_false_iff_not] at cB11
                                          refine c_seq (fun K76 hK76 => ?_)
                                          exact (by
                                            refine c_region ?_
                                            refine l_step (y_moveV (et (gS rfl (gS rfl (gS rfl g0))) rfl)) ?_
                                            refine l_step (y_eql (et g0 rfl) rfl) ?_
                                            refine l_step (y_assignV (et g0 rfl)) ?_
                                            refine l_nil ?_
                                            refine hK76 _ _ ?_
                                            refine fg3 1 0 59 (gS rfl (gS rfl (gS rfl (gS rfl (gS rfl (gS rfl g0)))))) (gS rfl (gS rfl (gS rfl (gS rfl (gS rfl g0))))) g0 (fun g => ?_)
                                            refine c_condV (i := 59) g0 rfl (fun cB12 => ?_) (fun cB12 => ?_)
                                            · skip
                                              simp only [Bool.and_eq_true, Bool.or_eq_true, Bool.and_eq_false_imp, Bool.or_eq_false_iff, decide_eq_true_eq, decide_eq_false_iff_not] at cB12
                                              refine c_seq (fun K78 hK78 => ?_)
                                              exact (by
                                                refine c_region ?_
                                                refine l_step (y_moveV (et (gS rfl (gS rfl g0)) rfl)) ?_
                                                refine l_eff (e_callV cal_63 (aC (et g0 rfl) (aC (v := .int .i64 ((0 : Nat) : Int)) rfl aN)) (yp_arg _ _ 0 _ _ _ _ _ _ hF kF (rF 8 _ rfl) (hSt.mono hL0) (by omega) (by first | decide | omega))) (fun v79 w79 h79 => ?_)
                                                obtain ⟨u79, n79, q79⟩ := h79
                                                replace G := G.tr (Go.ofUp hF u79)
                                                replace hF := hF.up u79
                                                replace kF := kF.up u79
                                                replace U := U.tr u79
                                                refine l_step (y_moveV (et (gS rfl (gS rfl (gS rfl (gS rfl g0)))) rfl)) ?_
                                                refine l_eff (e_callV cal_63 (aC (et g0 rfl) (aC (v := .int .i64 ((2 : Nat) : Int)) rfl aN)) (yp_arg _ _ 2 _ _ _ _ _ _ hF kF (rF 8 _ rfl) (hSt.mono hL0) (by omega) (by first | decide | omega))) (fun v80 w80 h80 => ?_)
                                                obtain ⟨u80, n80, q80⟩ := h80
                                                replace G := G.tr (Go.ofUp hF u80)
                                                replace hF := hF.up u80
                                                replace kF := kF.up u80
                                                replace U := U.tr u80
                                                refine l_eff (e_callV cal_144 (aC (et (gS rfl (gS rfl g0)) rfl) (aC (et g0 rfl) aN)) (yp_end hF n79 n80 (bd_up (bd_W q79) (by decide)) (bd_up (bd_W q80) (by decide)))) (fun v81 w81 h81 => ?_)
                                                obtain ⟨H81, g81, n81⟩ := h81
                                                have hlew81 := g81.le
                                                replace n79 := n79.mono hlew81
                                                replace n80 := n80.mono hlew81
                                                replace hL0 := hL0.trans hlew81
                                                replace kF := kF.up g81.up
                                                replace U := U.tr g81.up
                                                replace G := G.tr g81
                                                replace hF := g81.fz
                                                have q81 := bd_end (c := 33) (bd_up (b := 32) (bd_W q79) (by decide)) (bd_up (b := 32) (bd_W q80) (by decide)) (by decide)
                                                refine l_step (y_moveV (et (gS rfl (gS rfl (gS rfl (gS rfl (gS rfl (gS rfl (gS rfl g0))))))) rfl)) ?_
                                                refine l_eff (e_callV cal_63 (aC (et g0 rfl) (aC (v := .int .i64 ((1 : Nat) : Int)) rfl aN)) (yp_arg _ _ 1 _ _ _ _ _ _ hF kF (rF 8 _ rfl) (hSt.mono hL0) (by omega) (by first | decide | omega))) (fun v82 w82 h82 => ?_)
                                                obtain ⟨u82, n82, q82⟩ := h82
                                                replace G := G.tr (Go.ofUp hF u82)
                                                replace hF := hF.up u82
                                                replace kF := kF.up u82
                                                replace U := U.tr u82
                                                exact (by
                                                  refine l_step (y_moveV (et (gS rfl (gS rfl (gS rfl (gS rfl (gS rfl (gS rfl (gS rfl (gS rfl (gS rfl g0))))))))) rfl)) ?_
                                                  refine l_eff (e_callV cal_63 (aC (et g0 rfl) (aC (v := .int .i64 ((2 : Nat) : Int)) rfl aN)) (yp_arg _ _ 2 _ _ _ _ _ _ hF kF (rF 8 _ rfl) (hSt.mono hL0) (by omega) (by first | decide | omega))) (fun v83 w83 h83 => ?_)
                                                  obtain ⟨u83, n83, q83⟩ := h83
                                                  replace G := G.tr (Go.ofUp hF u83)
                                                  replace hF := hF.up u83
                                                  replace kF := kF.up u83
                                                  replace U := U.tr u83
                                                  refine l_eff (e_callV cal_144 (aC (et (gS rfl (gS rfl g0)) rfl) (aC (et g0 rfl) aN)) (yp_end hF n82 n83 (bd_up (bd_W q82) (by decide)) (bd_up (bd_W q83) (by decide)))) (fun v84 w84 h84 => ?_)
                                                  obtain ⟨H84, g84, n84⟩ := h84
                                                  have hlew84 := g84.le
                                                  replace n79 := n79.mono hlew84
                                                  replace n80 := n80.mono hlew84
                                                  replace n81 := n81.mono hlew84
                                                  replace n82 := n82.mono hlew84
                                                  replace n83 := n83.mono hlew84
                                                  replace hL0 := hL0.trans hlew84
                                                  replace kF := kF.up g84.up
                                                  replace U := U.tr g84.up
                                                  replace G := G.tr g84
                                                  replace hF := g84.fz
                                                  have q84 := bd_end (c := 33) (bd_up (b := 32) (bd_W q82) (by decide)) (bd_up (b := 32) (bd_W q83) (by decide)) (by decide)
                                                  refine l_eff (e_callV cal_145 (aC (et (gS rfl (gS rfl (gS rfl (gS rfl (gS rfl g0))))) rfl) (aC (et g0 rfl) aN)) (yp_max hF n81 n84 (bd_sm q81 (by decide)) (bd_sm q84 (by decide)))) (fun v85 w85 h85 => ?_)
                                                  obtain ⟨H85, g85, n85⟩ := h85
                                                  have hlew85 := g85.le
                                                  replace n79 := n79.mono hlew85
                                                  replace n80 := n80.mono hlew85
                                                  replace n81 := n81.mono hlew85
                                                  replace n82 := n82.mono hlew85
                                                  replace n83 := n83.mono hlew85
                                                  replace n84 := n84.mono hlew85
                                                  replace hL0 := hL0.trans hlew85
                                                  replace kF := kF.up g85.up
                                                  replace U := U.tr g85.up
                                                  replace G := G.tr g85
                                                  replace hF := g85.fz
                                                  have q85 := bd_max (c := 33) q81 q84 (by decide)
                                                  exact (by
                                                    refine l_step (y_assignV (et g0 rfl)) ?_
                                                    refine l_nil ?_
                                                    refine hK78 _ _ ?_
                                                    refine fg1 4 g0 (fun g => ?_)
                                                    refine c_ret ?_
                                                    refine hQ3 _ _ _ (in_ret ?_)
                                                    repeat with_reducible refine then_ret ?_
                                                    refine ret1 rfl (res_tmp (et g0 rfl)) ?_
                                                    exact ⟨_, G, n85.to (by rw [yReach, if_neg (by omega), if_neg (by omega), if_neg (by omega), if_neg (by omega), if_neg (by omega), if_pos (by omega)]), by rw [yReach, if_neg (by omega), if_neg (by omega), if_neg (by omega), if_neg (by omega), if_neg (by omega), if_pos (by omega)]; first | exact q85 | exact bd_up q85 (by decide)⟩)))
                                            · skip
                                              simp only [Bool.and_eq_true, Bool.or_eq_true, Bool.and_eq_false_imp, Bool.or_eq_false_iff, decide_eq_true_eq, decide_eq_false_iff_not] at cB12
                                              refine c_seq (fun K86 hK86 => ?_)
                                              refine c_seq (fun K87 hK87 => ?_)
                                              exact (by
                                                refine c_region ?_
                                                refine l_step (y_moveV (et (gS rfl (gS rfl (gS rfl g0))) rfl)) ?_
                                                refine l_step (y_eql (et g0 rfl) rfl) ?_
                                                refine l_step (y_assignV (et g0 rfl)) ?_
                                                refine l_nil ?_
                                                refine hK87 _ _ ?_
                                                refine fg3 1 0 73 (gS rfl (gS rfl (gS rfl (gS rfl (gS rfl (gS rfl g0)))))) (gS rfl (gS rfl (gS rfl (gS rfl (gS rfl g0))))) g0 (fun g => ?_)
                                                refine c_condV (i := 73) g0 rfl (fun cB13 => ?_) (fun cB13 => ?_)
                                                · skip
                                                  simp only [Bool.and_eq_true, Bool.or_eq_true, Bool.and_eq_false_imp, Bool.or_eq_false_iff, decide_eq_true_eq, decide_eq_false_iff_not] at cB13
                                                  refine c_skip ?_
                                                  refine hK86 _ _ ?_
                                                  refine fg3 1 0 73 (gS rfl (gS rfl (gS rfl g0))) (gS rfl (gS rfl g0)) g0 (fun g => ?_)
                                                  refine c_true (et g0 rfl) rfl ?_
                                                  refine c_seq (fun K90 hK90 => ?_)
                                                  exact (by
                                                    refine c_region ?_
                                                    refine l_step (y_moveV (et (gS rfl g0) rfl)) ?_
                                                    refine l_eff (e_callV cal_63 (aC (et g0 rfl) (aC (v := .int .i64 ((1 : Nat) : Int)) rfl aN)) (yp_arg _ _ 1 _ _ _ _ _ _ hF kF (rF 8 _ rfl) (hSt.mono hL0) (by omega) (by first | decide | omega))) (fun v91 w91 h91 => ?_)
                                                    obtain ⟨u91, n91, q91⟩ := h91
                                                    replace G := G.tr (Go.ofUp hF u91)
                                                    replace hF := hF.up u91
                                                    replace kF := kF.up u91
                                                    replace U := U.tr u91
                                                    refine l_step (y_moveV (et (gS rfl (gS rfl (gS rfl g0))) rfl)) ?_
                                                    refine l_eff (e_callV cal_63 (aC (et g0 rfl) (aC (v := .int .i64 ((2 : Nat) : Int)) rfl aN)) (yp_arg _ _ 2 _ _ _ _ _ _ hF kF (rF 8 _ rfl) (hSt.mono hL0) (by omega) (by first | decide | omega))) (fun v92 w92 h92 => ?_)
                                                    obtain ⟨u92, n92, q92⟩ := h92
                                                    replace G := G.tr (Go.ofUp hF u92)
                                                    replace hF := hF.up u92
                                                    replace kF := kF.up u92
                                                    replace U := U.tr u92
                                                    refine l_eff (e_callV cal_144 (aC (et (gS rfl (gS rfl g0)) rfl) (aC (et g0 rfl) aN)) (yp_end hF n91 n92 (bd_up (bd_W q91) (by decide)) (bd_up (bd_W q92) (by decide)))) (fun v93 w93 h93 => ?_)
                                                    obtain ⟨H93, g93, n93⟩ := h93
                                                    have hlew93 := g93.le
                                                    replace n91 := n91.mono hlew93
                                                    replace n92 := n92.mono hlew93
                                                    replace hL0 := hL0.trans hlew93
                                                    replace kF := kF.up g93.up
                                                    replace U := U.tr g93.up
                                                    replace G := G.tr g93
                                                    replace hF := g93.fz
                                                    have q93 := bd_end (c := 33) (bd_up (b := 32) (bd_W q91) (by decide)) (bd_up (b := 32) (bd_W q92) (by decide)) (by decide)
                                                    refine l_step (y_assignV (et g0 rfl)) ?_
                                                    refine l_nil ?_
                                                    refine hK90 _ _ ?_
                                                    refine fg1 4 g0 (fun g => ?_)
                                                    refine c_ret ?_
                                                    refine hQ3 _ _ _ (in_ret ?_)
                                                    repeat with_reducible refine then_ret ?_
                                                    refine ret1 rfl (res_tmp (et g0 rfl)) ?_
                                                    exact ⟨_, G, n93.to (by rw [yReach, if_neg (by omega), if_neg (by omega), if_neg (by omega), if_neg (by omega), if_neg (by omega), if_neg (by omega), if_pos (by omega)]), by rw [yReach, if_neg (by omega), if_neg (by omega), if_neg (by omega), if_neg (by omega), if_neg (by omega), if_neg (by omega), if_pos (by omega)]; first | exact q93 | exact bd_up q93 (by decide)⟩)
                                                · skip
                                                  simp only [Bool.and_eq_true, Bool.or_eq_true, Bool.and_eq_false_imp, Bool.or_eq_false_iff, decide_eq_true_eq, decide_eq_false_iff_not] at cB13
                                                  refine c_region ?_
                                                  refine l_step (y_moveV (et (gS rfl (gS rfl (gS rfl g0))) rfl)) ?_
                                                  refine l_step (y_eql (et g0 rfl) rfl) ?_
                                                  refine l_step (y_assignV (et g0 rfl)) ?_
                                                  refine l_nil ?_
                                                  refine hK86 _ _ ?_
                                                  refine fg3 1 0 73 (gS rfl (gS rfl (gS rfl (gS rfl (gS rfl (gS rfl g0)))))) (gS rfl (gS rfl (gS rfl (gS rfl (gS rfl g0))))) g0 (fun g => ?_)
                                                  refine c_condV (i := 73) g0 rfl (fun cB14 => ?_) (fun cB14 => ?_)
                                                  · skip
                                                    simp only [Bool.and_eq_true, Bool.or_eq_true, Bool.and_eq_false_imp, Bool.or_eq_false_iff, decide_eq_true_eq, decide_eq_false_iff_not] at cB14
                                                    refine c_seq (fun K95 hK95 => ?_)
                                                    exact (by
                                                      refine c_region ?_
                                                      refine l_step (y_moveV (et (gS rfl (gS rfl g0)) rfl)) ?_
                                                      refine l_eff (e_callV cal_63 (aC (et g0 rfl) (aC (v := .int .i64 ((1 : Nat) : Int)) rfl aN)) (yp_arg _ _ 1 _ _ _ _ _ _ hF kF (rF 8 _ rfl) (hSt.mono hL0) (by omega) (by first | decide | omega))) (fun v96 w96 h96 => ?_)
                                                      obtain ⟨u96, n96, q96⟩ := h96
                                                      replace G := G.tr (Go.ofUp hF u96)
                                                      replace hF := hF.up u96
                                                      replace kF := kF.up u96
                                                      replace U := U.tr u96
                                                      refine l_step (y_moveV (et (gS rfl (gS rfl (gS rfl (gS rfl g0)))) rfl)) ?_
                                                      refine l_eff (e_callV cal_63 (aC (et g0 rfl) (aC (v := .int .i64 ((2 : Nat) : Int)) rfl aN)) (yp_arg _ _ 2 _ _ _ _ _ _ hF kF (rF 8 _ rfl) (hSt.mono hL0) (by omega) (by first | decide | omega))) (fun v97 w97 h97 => ?_)
                                                      obtain ⟨u97, n97, q97⟩ := h97
                                                      replace G := G.tr (Go.ofUp hF u97)
                                                      replace hF := hF.up u97
                                                      replace kF := kF.up u97
                                                      replace U := U.tr u97
                                                      refine l_eff (e_callV cal_144 (aC (et (gS rfl (gS rfl g0)) rfl) (aC (et g0 rfl) aN)) (yp_end hF n96 n97 (bd_up (bd_W q96) (by decide)) (bd_up (bd_W q97) (by decide)))) (fun v98 w98 h98 => ?_)
                                                      obtain ⟨H98, g98, n98⟩ := h98
                                                      have hlew98 := g98.le
                                                      replace n96 := n96.mono hlew98
                                                      replace n97 := n97.mono hlew98
                                                      replace hL0 := hL0.trans hlew98
                                                      replace kF := kF.up g98.up
                                                      replace U := U.tr g98.up
                                                      replace G := G.tr g98
                                                      replace hF := g98.fz
                                                      have q98 := bd_end (c := 33) (bd_up (b := 32) (bd_W q96) (by decide)) (bd_up (b := 32) (bd_W q97) (by decide)) (by decide)
                                                      refine l_step (y_assignV (et g0 rfl)) ?_
                                                      refine l_nil ?_
                                                      refine hK95 _ _ ?_
                                                      refine fg1 4 g0 (fun g => ?_)
                                                      refine c_ret ?_
                                                      refine hQ3 _ _ _ (in_ret ?_)
                                                      repeat with_reducible refine then_ret ?_
                                                      refine ret1 rfl (res_tmp (et g0 rfl)) ?_
                                                      exact ⟨_, G, n98.to (by rw [yReach, if_neg (by omega), if_neg (by omega), if_neg (by omega), if_neg (by omega), if_neg (by omega), if_neg (by omega), if_pos (by omega)]), by rw [yReach, if_neg (by omega), if_neg (by omega), if_neg (by omega), if_neg (by omega), if_neg (by omega), if_neg (by omega), if_pos (by omega)]; first | exact q98 | exact bd_up q98 (by decide)⟩)
                                                  · skip
                                                    simp only [Bool.and_eq_true, Bool.or_eq_true, Bool.and_eq_false_imp, Bool.or_eq_false_iff, decide_eq_true_eq, decide_eq_false_iff_not] at cB14
                                                    refine c_seq (fun K99 hK99 => ?_)
                                                    refine c_seq (fun K100 hK100 => ?_)
                                                    exact (by
                                                      refine c_region ?_
                                                      refine l_step (y_moveV (et (gS rfl (gS rfl (gS rfl g0))) rfl)) ?_
                                                      refine l_step (y_eql (et g0 rfl) rfl) ?_
                                                      refine l_step (y_assignV (et g0 rfl)) ?_
                                                      refine l_nil ?_
                                                      refine hK100 _ _ ?_
                                                      refine fg3 1 0 83 (gS rfl (gS rfl (gS rfl (gS rfl (gS rfl (gS rfl g0)))))) (gS rfl (gS rfl (gS rfl (gS rfl (gS rfl g0))))) g0 (fun g => ?_)
                                                      refine c_condV (i := 83) g0 rfl (fun cB15 => ?_) (fun cB15 => ?_)
                                                      · skip
                                                        simp only [Bool.and_eq_true, Bool.or_eq_true, Bool.and_eq_false_imp, Bool.or_eq_false_iff, decide_eq_true_eq, decide_eq_false_iff_not] at cB15
                                                        refine c_skip ?_
                                                        refine hK99 _ _ ?_
                                                        refine fg3 1 0 83 (gS rfl (gS rfl (gS rfl g0))) (gS rfl (gS rfl g0)) g0 (fun g => ?_)
                                                        refine c_true (et g0 rfl) rfl ?_
                                                        refine c_seq (fun K103 hK103 => ?_)
                                                        exact (by
                                                          refine c_region ?_
                                                          refine l_step (y_moveV (et (gS rfl g0) rfl)) ?_
                                                          refine l_eff (e_callV cal_63 (aC (et g0 rfl) (aC (v := .int .i64 ((3 : Nat) : Int)) rfl aN)) (yp_arg _ _ 3 _ _ _ _ _ _ hF kF (rF 8 _ rfl) (hSt.mono hL0) (by omega) (by first | decide | omega))) (fun v104 w104 h104 => ?_)
                                                          obtain ⟨u104, n104, q104⟩ := h104
                                                          replace G := G.tr (Go.ofUp hF u104)
                                                          replace hF := hF.up u104
                                                          replace kF := kF.up u104
                                                          replace U := U.tr u104
                                                          refine l_step (y_moveV (et (gS rfl (gS rfl (gS rfl g0))) rfl)) ?_
                                                          refine l_eff (e_callV cal_63 (aC (et g0 rfl) (aC (v := .int .i64 ((4 : Nat) : Int)) rfl aN)) (yp_arg _ _ 4 _ _ _ _ _ _ hF kF (rF 8 _ rfl) (hSt.mono hL0) (by omega) (by first | decide | omega))) (fun v105 w105 h105 => ?_)
                                                          obtain ⟨u105, n105, q105⟩ := h105
                                                          replace G := G.tr (Go.ofUp hF u105)
                                                          replace hF := hF.up u105
                                                          replace kF := kF.up u105
                                                          replace U := U.tr u105
                                                          refine l_eff (e_callV cal_144 (aC (et (gS rfl (gS rfl g0)) rfl) (aC (et g0 rfl) aN)) (yp_end hF n104 n105 (bd_up (bd_W q104) (by decide)) (bd_up (bd_W q105) (by decide)))) (fun v106 w106 h106 => ?_)
                                                          obtain ⟨H106, g106, n106⟩ := h106
                                                          have hlew106 := g106.le
                                                          replace n104 := n104.mono hlew106
                                                          replace n105 := n105.mono hlew106
                                                          replace hL0 := hL0.trans hlew106
                                                          replace kF := kF.up g106.up
                                                          replace U := U.tr g106.up
                                                          replace G := G.tr g106
                                                          replace hF := g106.fz
                                                          have q106 := bd_end (c := 33) (bd_up (b := 32) (bd_W q104) (by decide)) (bd_up (b := 32) (bd_W q105) (by decide)) (by decide)
                                                          refine l_step (y_moveV (et (gS rfl (gS rfl (gS rfl (gS rfl (gS rfl (gS rfl g0)))))) rfl)) ?_
                                                          refine l_eff (e_callV cal_63 (aC (et g0 rfl) (aC (v := .int .i64 ((5 : Nat) : Int)) rfl aN)) (yp_arg _ _ 5 _ _ _ _ _ _ hF kF (rF 8 _ rfl) (hSt.mono hL0) (by omega) (by first | decide | omega))) (fun v107 w107 h107 => ?_)
                                                          obtain ⟨u107, n107, q107⟩ := h107
                                                          replace G := G.tr (Go.ofUp hF u107)
                                                          replace hF := hF.up u107
                                                          replace kF := kF.up u107
                                                          replace U := U.tr u107
                                                          exact (by
                                                            refine l_step (y_moveV (et (gS rfl (gS rfl (gS rfl (gS rfl (gS rfl (gS rfl (gS rfl (gS rfl g0)))))))) rfl)) ?_
                                                            refine l_eff (e_callV cal_63 (aC (et g0 rfl) (aC (v := .int .i64 ((6 : Nat) : Int)) rfl aN)) (yp_arg _ _ 6 _ _ _ _ _ _ hF kF (rF 8 _ rfl) (hSt.mono hL0) (by omega) (by first | decide | omega))) (fun v108 w108 h108 => ?_)
                                                            obtain ⟨u108, n108, q108⟩ := h108
                                                            replace G := G.tr (Go.ofUp hF u108)
                                                            replace hF := hF.up u108
                                                            replace kF := kF.up u108
                                                            replace U := U.tr u108
                                                            refine l_eff (e_callV cal_144 (aC (et (gS rfl (gS rfl g0)) rfl) (aC (et g0 rfl) aN)) (yp_end hF n107 n108 (bd_up (bd_W q107) (by decide)) (bd_up (bd_W q108) (by decide)))) (fun v109 w109 h109 => ?_)
                                                            obtain ⟨H109, g109, n109⟩ := h109
                                                            have hlew109 := g109.le
                                                            replace n104 := n104.mono hlew109
                                                            replace n105 := n105.mono hlew109
                                                            replace n106 := n106.mono hlew109
                                                            replace n107 := n107.mono hlew109
                                                            replace n108 := n108.mono hlew109
                                                            replace hL0 := hL0.trans hlew109
                                                            replace kF := kF.up g109.up
                                                            replace U := U.tr g109.up
                                                            replace G := G.tr g109
                                                            replace hF := g109.fz
                                                            have q109 := bd_end (c := 33) (bd_up (b := 32) (bd_W q107) (by decide)) (bd_up (b := 32) (bd_W q108) (by decide)) (by decide)
                                                            refine l_eff (e_callV cal_145 (aC (et (gS rfl (gS rfl (gS rfl (gS rfl (gS rfl g0))))) rfl) (aC (et g0 rfl) aN)) (yp_max hF n106 n109 (bd_sm q106 (by decide)) (bd_sm q109 (by decide)))) (fun v110 w110 h110 => ?_)
                                                            obtain ⟨H110, g110, n110⟩ := h110
                                                            have hlew110 := g110.le
                                                            replace n104 := n104.mono hlew110
                                                            replace n105 := n105.mono hlew110
                                                            replace n106 := n106.mono hlew110
                                                            replace n107 := n107.mono hlew110
                                                            replace n108 := n108.mono hlew110
                                                            replace n109 := n109.mono hlew110
                                                            replace hL0 := hL0.trans hlew110
                                                            replace kF := kF.up g110.up
                                                            replace U := U.tr g110.up
                                                            replace G := G.tr g110
                                                            replace hF := g110.fz
                                                            have q110 := bd_max (c := 33) q106 q109 (by decide)
                                                            exact (by
                                                              refine l_step (y_assignV (et g0 rfl)) ?_
                                                              refine l_nil ?_
                                                              refine hK103 _ _ ?_
                                                              refine fg1 4 g0 (fun g => ?_)
                                                              refine c_ret ?_
                                                              refine hQ3 _ _ _ (in_ret ?_)
                                                              repeat with_reducible refine then_ret ?_
                                                              refine ret1 rfl (res_tmp (et g0 rfl)) ?_
                                                              exact ⟨_, G, n110.to (by rw [yReach, if_neg (by omega), if_neg (by omega), if_neg (by omega), if_neg (by omega), if_neg (by omega), if_neg (by omega), if_neg (by omega), if_pos (by omega)]), by rw [yReach, if_neg (by omega), if_neg (by omega), if_neg (by omega), if_neg (by omega), if_neg (by omega), if_neg (by omega), if_neg (by omega), if_pos (by omega)]; first | exact q110 | exact bd_up q110 (by decide)⟩)))
                                                      · skip
                                                        simp only [Bool.and_eq_true, Bool.or_eq_true, Bool.and_eq_false_imp, Bool.or_eq_false_iff, decide_eq_true_eq, decide_eq_false_iff_not] at cB15
                                                        refine c_region ?_
                                                        refine l_step (y_moveV (et (gS rfl (gS rfl (gS rfl g0))) rfl)) ?_
                                                        refine l_step (y_eql (et g0 rfl) rfl) ?_
                                                        refine l_step (y_assignV (et g0 rfl)) ?_
                                                        refine l_nil ?_
                                                        refine hK99 _ _ ?_
                                                        refine fg3 1 0 83 (gS rfl (gS rfl (gS rfl (gS rfl (gS rfl (gS rfl g0)))))) (gS rfl (gS rfl (gS rfl (gS rfl (gS rfl g0))))) g0 (fun g => ?_)
                                                        refine c_condV (i := 83) g0 rfl (fun cB16 => ?_) (fun cB16 => ?_)
                                                        · skip
                                                          simp only [Bool.and_eq_true, Bool.or_eq_true, Bool.and_eq_false_imp, Bool.or_eq_false_iff, decide_eq_true_eq, decide_eq_false_iff_not] at cB16
                                                          refine c_seq (fun K112 hK112 => ?_)
                                                          exact (by
                                                            refine c_region ?_
                                                            refine l_step (y_moveV (et (gS rfl (gS rfl g0)) rfl)) ?_
                                                            refine l_eff (e_callV cal_63 (aC (et g0 rfl) (aC (v := .int .i64 ((3 : Nat) : Int)) rfl aN)) (yp_arg _ _ 3 _ _ _ _ _ _ hF kF (rF 8 _ rfl) (hSt.mono hL0) (by omega) (by first | decide | omega))) (fun v113 w113 h113 => ?_)
                                                            obtain ⟨u113, n113, q113⟩ := h113
                                                            replace G := G.tr (Go.ofUp hF u113)
                                                            replace hF := hF.up u113
                                                            replace kF := kF.up u113
                                                            replace U := U.tr u113
                                                            refine l_step (y_moveV (et (gS rfl (gS rfl (gS rfl (gS rfl g0)))) rfl)) ?_
                                                            refine l_eff (e_callV cal_63 (aC (et g0 rfl) (aC (v := .int .i64 ((4 : Nat) : Int)) rfl aN)) (yp_arg _ _ 4 _ _ _ _ _ _ hF kF (rF 8 _ rfl) (hSt.mono hL0) (by omega) (by first | decide | omega))) (fun v114 w114 h114 => ?_)
                                                            obtain ⟨u114, n114, q114⟩ := h114
                                                            replace G := G.tr (Go.ofUp hF u114)
                                                            replace hF := hF.up u114
                                                            replace kF := kF.up u114
                                                            replace U := U.tr u114
                                                            refine l_eff (e_callV cal_144 (aC (et (gS rfl (gS rfl g0)) rfl) (aC (et g0 rfl) aN)) (yp_end hF n113 n114 (bd_up (bd_W q113) (by decide)) (bd_up (bd_W q114) (by decide)))) (fun v115 w115 h115 => ?_)
                                                            obtain ⟨H115, g115, n115⟩ := h115
                                                            have hlew115 := g115.le
                                                            replace n113 := n113.mono hlew115
                                                            replace n114 := n114.mono hlew115
                                                            replace hL0 := hL0.trans hlew115
                                                            replace kF := kF.up g115.up
                                                            replace U := U.tr g115.up
                                                            replace G := G.tr g115
                                                            replace hF := g115.fz
                                                            have q115 := bd_end (c := 33) (bd_up (b := 32) (bd_W q113) (by decide)) (bd_up (b := 32) (bd_W q114) (by decide)) (by decide)
                                                            refine l_step (y_moveV (et (gS rfl (gS rfl (gS rfl (gS rfl (gS rfl (gS rfl (gS rfl g0))))))) rfl)) ?_
                                                            refine l_eff (e_callV cal_63 (aC (et g0 rfl) (aC (v := .int .i64 ((5 : Nat) : Int)) rfl aN)) (yp_arg _ _ 5 _ _ _ _ _ _ hF kF (rF 8 _ rfl) (hSt.mono hL0) (by omega) (by first | decide | omega))) (fun v116 w116 h116 => ?_)
                                                            obtain ⟨u116, n116, q116⟩ := h116
                                                            replace G := G.tr (Go.ofUp hF u116)
                                                            replace hF := hF.up u116
                                                            replace kF := kF.up u116
                                                            replace U := U.tr u116
                                                            exact (by
                                                              refine l_step (y_moveV (et (gS rfl (gS rfl (gS rfl (gS rfl (gS rfl (gS rfl (gS rfl (gS rfl (gS rfl g0))))))))) rfl)) ?_
                                                              refine l_eff (e_callV cal_63 (aC (et g0 rfl) (aC (v := .int .i64 ((6 : Nat) : Int)) rfl aN)) (yp_arg _ _ 6 _ _ _ _ _ _ hF kF (rF 8 _ rfl) (hSt.mono hL0) (by omega) (by first | decide | omega))) (fun v117 w117 h117 => ?_)
                                                              obtain ⟨u117, n117, q117⟩ := h117
                                                              replace G := G.tr (Go.ofUp hF u117)
                                                              replace hF := hF.up u117
                                                              replace kF := kF.up u117
                                                              replace U := U.tr u117
                                                              refine l_eff (e_callV cal_144 (aC (et (gS rfl (gS rfl g0)) rfl) (aC (et g0 rfl) aN)) (yp_end hF n116 n117 (bd_up (bd_W q116) (by decide)) (bd_up (bd_W q117) (by decide)))) (fun v118 w118 h118 => ?_)
                                                              obtain ⟨H118, g118, n118⟩ := h118
                                                              have hlew118 := g118.le
                                                              replace n113 := n113.mono hlew118
                                                              replace n114 := n114.mono hlew118
                                                              replace n115 := n115.mono hlew118
                                                              replace n116 := n116.mono hlew118
                                                              replace n117 := n117.mono hlew118
                                                              replace hL0 := hL0.trans hlew118
                                                              replace kF := kF.up g118.up
                                                              replace U := U.tr g118.up
                                                              replace G := G.tr g118
                                                              replace hF := g118.fz
                                                              have q118 := bd_end (c := 33) (bd_up (b := 32) (bd_W q116) (by decide)) (bd_up (b := 32) (bd_W q117) (by decide)) (by decide)
                                                              refine l_eff (e_callV cal_145 (aC (et (gS rfl (gS rfl (gS rfl (gS rfl (gS rfl g0))))) rfl) (aC (et g0 rfl) aN)) (yp_max hF n115 n118 (bd_sm q115 (by decide)) (bd_sm q118 (by decide)))) (fun v119 w119 h119 => ?_)
                                                              obtain ⟨H119, g119, n119⟩ := h119
                                                              have hlew119 := g119.le
                                                              replace n113 := n113.mono hlew119
                                                              replace n114 := n114.mono hlew119
                                                              replace n115 := n115.mono hlew119
                                                              replace n116 := n116.mono hlew119
                                                              replace n117 := n117.mono hlew119
                                                              replace n118 := n118.mono hlew119
                                                              replace hL0 := hL0.trans hlew119
                                                              replace kF := kF.up g119.up
                                                              replace U := U.tr g119.up
                                                              replace G := G.tr g119
                                                              replace hF := g119.fz
                                                              have q119 := bd_max (c := 33) q115 q118 (by decide)
                                                              exact (by
                                                                refine l_step (y_assignV (et g0 rfl)) ?_
                                                                refine l_nil ?_
                                                                refine hK112 _ _ ?_
                                                                refine fg1 4 g0 (fun g => ?_)
                                                                refine c_ret ?_
                                                                refine hQ3 _ _ _ (in_ret ?_)
                                                                repeat with_reducible refine then_ret ?_
                                                                refine ret1 rfl (res_tmp (et g0 rfl)) ?_
                                                                exact ⟨_, G, n119.to (by rw [yReach, if_neg (by omega), if_neg (by omega), if_neg (by omega), if_neg (by omega), if_neg (by omega), if_neg (by omega), if_neg (by omega), if_pos (by omega)]), by rw [yReach, if_neg (by omega), if_neg (by omega), if_neg (by omega), if_neg (by omega), if_neg (by omega), if_neg (by omega), if_neg (by omega), if_pos (by omega)]; first | exact q119 | exact bd_up q119 (by decide)⟩)))
                                                        · skip
                                                          simp only [Bool.and_eq_true, Bool.or_eq_true, Bool.and_eq_false_imp, Bool.or_eq_false_iff, decide_eq_true_eq, decide_eq_false_iff_not] at cB16
                                                          refine c_seq (fun K120 hK120 => ?_)
                                                          refine c_seq (fun K121 hK121 => ?_)
                                                          exact (by
                                                            refine c_region ?_
                                                            refine l_step (y_moveV (et (gS rfl (gS rfl (gS rfl g0))) rfl)) ?_
                                                            refine l_step (y_eql (et g0 rfl) rfl) ?_
                                                            refine l_step (y_assignV (et g0 rfl)) ?_
                                                            refine l_nil ?_
                                                            refine hK121 _ _ ?_
                                                            refine fg3 1 0 99 (gS rfl (gS rfl (gS rfl (gS rfl (gS rfl (gS rfl g0)))))) (gS rfl (gS rfl (gS rfl (gS rfl (gS rfl g0))))) g0 (fun g => ?_)
                                                            refine c_condV (i := 99) g0 rfl (fun cB17 => ?_) (fun cB17 => ?_)
                                                            · skip
                                                              simp only [Bool.and_eq_true, Bool.or_eq_true, Bool.and_eq_false_imp, Bool.or_eq_false_iff, decide_eq_true_eq, decide_eq_false_iff_not] at cB17
                                                              refine c_skip ?_
                                                              refine hK120 _ _ ?_
                                                              refine fg2 0 99 (gS rfl (gS rfl g0)) g0 (fun g => ?_)
                                                              refine c_true (et g0 rfl) rfl ?_
                                                              refine c_seq (fun K124 hK124 => ?_)
                                                              exact (by
                                                                refine c_region ?_
                                                                refine l_step (y_moveV (et (gS rfl g0) rfl)) ?_
                                                                refine l_eff (e_callV cal_63 (aC (et g0 rfl) (aC (v := .int .i64 ((2 : Nat) : Int)) rfl aN)) (yp_arg _ _ 2 _ _ _ _ _ _ hF kF (rF 8 _ rfl) (hSt.mono hL0) (by omega) (by first | decide | omega))) (fun v125 w125 h125 => ?_)
                                                                obtain ⟨u125, n125, q125⟩ := h125
                                                                replace G := G.tr (Go.ofUp hF u125)
                                                                replace hF := hF.up u125
                                                                replace kF := kF.up u125
                                                                replace U := U.tr u125
                                                                refine l_step (y_moveV (et (gS rfl (gS rfl (gS rfl g0))) rfl)) ?_
                                                                refine l_eff (e_callV cal_63 (aC (et g0 rfl) (aC (v := .int .i64 ((3 : Nat) : Int)) rfl aN)) (yp_arg _ _ 3 _ _ _ _ _ _ hF kF (rF 8 _ rfl) (hSt.mono hL0) (by omega) (by first | decide | omega))) (fun v126 w126 h126 => ?_)
                                                                obtain ⟨u126, n126, q126⟩ := h126
                                                                replace G := G.tr (Go.ofUp hF u126)
                                                                replace hF := hF.up u126
                                                                replace kF := kF.up u126
                                                                replace U := U.tr u126
                                                                refine l_eff (e_callV cal_144 (aC (et (gS rfl (gS rfl g0)) rfl) (aC (et g0 rfl) aN)) (yp_end hF n125 n126 (bd_up (bd_W q125) (by decide)) (bd_up (bd_W q126) (by decide)))) (fun v127 w127 h127 => ?_)
                                                                obtain ⟨H127, g127, n127⟩ := h127
                                                                have hlew127 := g127.le
                                                                replace n125 := n125.mono hlew127
                                                                replace n126 := n126.mono hlew127
                                                                replace hL0 := hL0.trans hlew127
                                                                replace kF := kF.up g127.up
                                                                replace U := U.tr g127.up
                                                                replace G := G.tr g127
                                                                replace hF := g127.fz
                                                                have q127 := bd_end (c := 33) (bd_up (b := 32) (bd_W q125) (by decide)) (bd_up (b := 32) (bd_W q126) (by decide)) (by decide)
                                                                refine l_step (y_moveV (et (gS rfl (gS rfl (gS rfl (gS rfl (gS rfl (gS rfl g0)))))) rfl)) ?_
                                                                refine l_eff (e_callV cal_63 (aC (et g0 rfl) (aC (v := .int .i64 ((4 : Nat) : Int)) rfl aN)) (yp_arg _ _ 4 _ _ _ _ _ _ hF kF (rF 8 _ rfl) (hSt.mono hL0) (by omega) (by first | decide | omega))) (fun v128 w128 h128 => ?_)
                                                                obtain ⟨u128, n128, q128⟩ := h128
                                                                replace G := G.tr (Go.ofUp hF u128)
                                                                replace hF := hF.up u128
                                                                replace kF := kF.up u128
                                                                replace U := U.tr u128
                                                                exact (by
                                                                  refine l_step (y_moveV (et (gS rfl (gS rfl (gS rfl (gS rfl (gS rfl (gS rfl (gS rfl (gS rfl g0)))))))) rfl)) ?_
                                                                  refine l_eff (e_callV cal_63 (aC (et g0 rfl) (aC (v := .int .i64 ((5 : Nat) : Int)) rfl aN)) (yp_arg _ _ 5 _ _ _ _ _ _ hF kF (rF 8 _ rfl) (hSt.mono hL0) (by omega) (by first | decide | omega))) (fun v129 w129 h129 => ?_)
                                                                  obtain ⟨u129, n129, q129⟩ := h129
                                                                  replace G := G.tr (Go.ofUp hF u129)
                                                                  replace hF := hF.up u129
                                                                  replace kF := kF.up u129
                                                                  replace U := U.tr u129
                                                                  refine l_eff (e_callV cal_144 (aC (et (gS rfl (gS rfl g0)) rfl) (aC (et g0 rfl) aN)) (yp_end hF n128 n129 (bd_up (bd_W q128) (by decide)) (bd_up (bd_W q129) (by decide)))) (fun v130 w130 h130 => ?_)
                                                                  obtain ⟨H130, g130, n130⟩ := h130
                                                                  have hlew130 := g130.le
                                                                  replace n125 := n125.mono hlew130
                                                                  replace n126 := n126.mono hlew130
                                                                  replace n127 := n127.mono hlew130
                                                                  replace n128 := n128.mono hlew130
                                                                  replace n129 := n129.mono hlew130
                                                                  replace hL0 := hL0.trans hlew130
                                                                  replace kF := kF.up g130.up
                                                                  replace U := U.tr g130.up
                                                                  replace G := G.tr g130
                                                                  replace hF := g130.fz
                                                                  have q130 := bd_end (c := 33) (bd_up (b := 32) (bd_W q128) (by decide)) (bd_up (b := 32) (bd_W q129) (by decide)) (by decide)
                                                                  refine l_eff (e_callV cal_145 (aC (et (gS rfl (gS rfl (gS rfl (gS rfl (gS rfl g0))))) rfl) (aC (et g0 rfl) aN)) (yp_max hF n127 n130 (bd_sm q127 (by decide)) (bd_sm q130 (by decide)))) (fun v131 w131 h131 => ?_)
                                                                  obtain ⟨H131, g131, n131⟩ := h131
                                                                  have hlew131 := g131.le
                                                                  replace n125 := n125.mono hlew131
                                                                  replace n126 := n126.mono hlew131
                                                                  replace n127 := n127.mono hlew131
                                                                  replace n128 := n128.mono hlew131
                                                                  replace n129 := n129.mono hlew131
                                                                  replace n130 := n130.mono hlew131
                                                                  replace hL0 := hL0.trans hlew131
                                                                  replace kF := kF.up g131.up
                                                                  replace U := U.tr g131.up
                                                                  replace G := G.tr g131
                                                                  replace hF := g131.fz
                                                                  have q131 := bd_max (c := 33) q127 q130 (by decide)
                                                                  exact (by
                                                                    refine l_step (y_assignV (et g0 rfl)) ?_
                                                                    refine l_nil ?_
                                                                    refine hK124 _ _ ?_
                                                                    refine fg1 4 g0 (fun g => ?_)
                                                                    refine c_ret ?_
                                                                    refine hQ3 _ _ _ (in_ret ?_)
                                                                    repeat with_reducible refine then_ret ?_
                                                                    refine ret1 rfl (res_tmp (et g0 rfl)) ?_
                                                                    exact ⟨_, G, n131.to (by rw [yReach, if_neg (by omega), if_neg (by omega), if_neg (by omega), if_neg (by omega), if_neg (by omega), if_neg (by omega), if_neg (by omega), if_neg (by omega), if_pos (by omega)]), by rw [yReach, if_neg (by omega), if_neg (by omega), if_neg (by omega), if_neg (by omega), if_neg (by omega), if_neg (by omega), if_neg (by omega), if_neg (by omega), if_pos (by omega)]; first | exact q131 | exact bd_up q131 (by decide)⟩)))
                                                            · skip
                                                              simp only [Bool.and_eq_true, Bool.or_eq_true, Bool.and_eq_false_imp, Bool.or_eq_false_iff, decide_eq_true_eq, decide_eq_false_iff_not] at cB17
                                                              refine c_region ?_
                                                              refine l_step (y_moveV (et (gS rfl (gS rfl (gS rfl g0))) rfl)) ?_
                                                              refine l_step (y_eql (et g0 rfl) rfl) ?_
                                                              refine l_step (y_assignV (et g0 rfl)) ?_
                                                              refine l_nil ?_
                                                              refine hK120 _ _ ?_
                                                              refine fg2 0 99 (gS rfl (gS rfl (gS rfl (gS rfl (gS rfl g0))))) g0 (fun g => ?_)
                                                              refine c_condV (i := 99) g0 rfl (fun cB18 => ?_) (fun cB18 => ?_)
                                                              · skip
                                                                simp only [Bool.and_eq_true, Bool.or_eq_true, Bool.and_eq_false_imp, Bool.or_eq_false_iff, decide_eq_true_eq, decide_eq_false_iff_not] at cB18
                                                                refine c_seq (fun K133 hK133 => ?_)
                                                                exact (by
                                                                  refine c_region ?_
                                                                  refine l_step (y_moveV (et (gS rfl (gS rfl g0)) rfl)) ?_
                                                                  refine l_eff (e_callV cal_63 (aC (et g0 rfl) (aC (v := .int .i64 ((2 : Nat) : Int)) rfl aN)) (yp_arg _ _ 2 _ _ _ _ _ _ hF kF (rF 8 _ rfl) (hSt.mono hL0) (by omega) (by first | decide | omega))) (fun v134 w134 h134 => ?_)
                                                                  obtain ⟨u134, n134, q134⟩ := h134
                                                                  replace G := G.tr (Go.ofUp hF u134)
                                                                  replace hF := hF.up u134
                                                                  replace kF := kF.up u134
                                                                  replace U := U.tr u134
                                                                  refine l_step (y_moveV (et (gS rfl (gS rfl (gS rfl (gS rfl g0)))) rfl)) ?_
                                                                  refine l_eff (e_callV cal_63 (aC (et g0 rfl) (aC (v := .int .i64 ((3 : Nat) : Int)) rfl aN)) (yp_arg _ _ 3 _ _ _ _ _ _ hF kF (rF 8 _ rfl) (hSt.mono hL0) (by omega) (by first | decide | omega))) (fun v135 w135 h135 => ?_)
                                                                  obtain ⟨u135, n135, q135⟩ := h135
                                                                  replace G := G.tr (Go.ofUp hF u135)
                                                                  replace hF := hF.up u135
                                                                  replace kF := kF.up u135
                                                                  replace U := U.tr u135
                                                                  refine l_eff (e_callV cal_144 (aC (et (gS rfl (gS rfl g0)) rfl) (aC (et g0 rfl) aN)) (yp_end hF n134 n135 (bd_up (bd_W q134) (by decide)) (bd_up (bd_W q135) (by decide)))) (fun v136 w136 h136 => ?_)
                                                                  obtain ⟨H136, g136, n136⟩ := h136
                                                                  have hlew136 := g136.le
                                                                  replace n134 := n134.mono hlew136
                                                                  replace n135 := n135.mono hlew136
                                                                  replace hL0 := hL0.trans hlew136
                                                                  replace kF := kF.up g136.up
                                                                  replace U := U.tr g136.up
                                                                  replace G := G.tr g136
                                                                  replace hF := g136.fz
                                                                  have q136 := bd_end (c := 33) (bd_up (b := 32) (bd_W q134) (by decide)) (bd_up (b := 32) (bd_W q135) (by decide)) (by decide)
                                                                  refine l_step (y_moveV (et (gS rfl (gS rfl (gS rfl (gS rfl (gS rfl (gS rfl (gS rfl g0))))))) rfl)) ?_
                                                                  refine l_eff (e_callV cal_63 (aC (et g0 rfl) (aC (v := .int .i64 ((4 : Nat) : Int)) rfl aN)) (yp_arg _ _ 4 _ _ _ _ _ _ hF kF (rF 8 _ rfl) (hSt.mono hL0) (by omega) (by first | decide | omega))) (fun v137 w137 h137 => ?_)
                                                                  obtain ⟨u137, n137, q137⟩ := h137
                                                                  replace G := G.tr (Go.ofUp hF u137)
                                                                  replace hF := hF.up u137
                                                                  replace kF := kF.up u137
                                                                  replace U := U.tr u137
                                                                  exact (by
                                                                    refine l_step (y_moveV (et (gS rfl (gS rfl (gS rfl (gS rfl (gS rfl (gS rfl (gS rfl (gS rfl (gS rfl g0))))))))) rfl)) ?_
                                                                    refine l_eff (e_callV cal_63 (aC (et g0 rfl) (aC (v := .int .i64 ((5 : Nat) : Int)) rfl aN)) (yp_arg _ _ 5 _ _ _ _ _ _ hF kF (rF 8 _ rfl) (hSt.mono hL0) (by omega) (by first | decide | omega))) (fun v138 w138 h138 => ?_)
                                                                    obtain ⟨u138, n138, q138⟩ := h138
                                                                    replace G := G.tr (Go.ofUp hF u138)
                                                                    replace hF := hF.up u138
                                                                    replace kF := kF.up u138
                                                                    replace U := U.tr u138
                                                                    refine l_eff (e_callV cal_144 (aC (et (gS rfl (gS rfl g0)) rfl) (aC (et g0 rfl) aN)) (yp_end hF n137 n138 (bd_up (bd_W q137) (by decide)) (bd_up (bd_W q138) (by decide)))) (fun v139 w139 h139 => ?_)
                                                                    obtain ⟨H139, g139, n139⟩ := h139
                                                                    have hlew139 := g139.le
                                                                    replace n134 := n134.mono hlew139
                                                                    replace n135 := n135.mono hlew139
                                                                    replace n136 := n136.mono hlew139
                                                                    replace n137 := n137.mono hlew139
                                                                    replace n138 := n138.mono hlew139
                                                                    replace hL0 := hL0.trans hlew139
                                                                    replace kF := kF.up g139.up
                                                                    replace U := U.tr g139.up
                                                                    replace G := G.tr g139
                                                                    replace hF := g139.fz
                                                                    have q139 := bd_end (c := 33) (bd_up (b := 32) (bd_W q137) (by decide)) (bd_up (b := 32) (bd_W q138) (by decide)) (by decide)
                                                                    refine l_eff (e_callV cal_145 (aC (et (gS rfl (gS rfl (gS rfl (gS rfl (gS rfl g0))))) rfl) (aC (et g0 rfl) aN)) (yp_max hF n136 n139 (bd_sm q136 (by decide)) (bd_sm q139 (by decide)))) (fun v140 w140 h140 => ?_)
                                                                    obtain ⟨H140, g140, n140⟩ := h140
                                                                    have hlew140 := g140.le
                                                                    replace n134 := n134.mono hlew140
                                                                    replace n135 := n135.mono hlew140
                                                                    replace n136 := n136.mono hlew140
                                                                    replace n137 := n137.mono hlew140
                                                                    replace n138 := n138.mono hlew140
                                                                    replace n139 := n139.mono hlew140
                                                                    replace hL0 := hL0.trans hlew140
                                                                    replace kF := kF.up g140.up
                                                                    replace U := U.tr g140.up
                                                                    replace G := G.tr g140
                                                                    replace hF := g140.fz
                                                                    have q140 := bd_max (c := 33) q136 q139 (by decide)
                                                                    exact (by
                                                                      refine l_step (y_assignV (et g0 rfl)) ?_
                                                                      refine l_nil ?_
                                                                      refine hK133 _ _ ?_
                                                                      refine fg1 4 g0 (fun g => ?_)
                                                                      refine c_ret ?_
                                                                      refine hQ3 _ _ _ (in_ret ?_)
                                                                      repeat with_reducible refine then_ret ?_
                                                                      refine ret1 rfl (res_tmp (et g0 rfl)) ?_
                                                                      exact ⟨_, G, n140.to (by rw [yReach, if_neg (by omega), if_neg (by omega), if_neg (by omega), if_neg (by omega), if_neg (by omega), if_neg (by omega), if_neg (by omega), if_neg (by omega), if_pos (by omega)]), by rw [yReach, if_neg (by omega), if_neg (by omega), if_neg (by omega), if_neg (by omega), if_neg (by omega), if_neg (by omega), if_neg (by omega), if_neg (by omega), if_pos (by omega)]; first | exact q140 | exact bd_up q140 (by decide)⟩)))
                                                              · skip
                                                                simp only [Bool.and_eq_true, Bool.or_eq_true, Bool.and_eq_false_imp, Bool.or_eq_false_iff, decide_eq_true_eq, decide_eq_false_iff_not] at cB18
                                                                refine c_skip ?_
                                                                refine hQ3 _ _ _ (in_normal ?_)
                                                                refine hK2 _ _ ?_
                                                                refine fg0 (fun g => ?_)
                                                                refine c_seq (fun K141 hK141 => ?_)
                                                                exact (by
                                                                  refine c_region ?_
                                                                  refine l_step y_assignC ?_
                                                                  refine l_nil ?_
                                                                  refine hK141 _ _ ?_
                                                                  refine c_ret ?_
                                                                  repeat with_reducible refine then_ret ?_
                                                                  refine ret1 rfl (res_tmp (et g0 rfl)) ?_
                                                                  exact ⟨_, G, (NV.nil _).to (by rw [yReach, if_neg (by omega), if_neg (by omega), if_neg (by omega), if_neg (by omega), if_neg (by omega), if_neg (by omega), if_neg (by omega), if_neg (by omega), if_neg (by omega)]), by rw [yReach, if_neg (by omega), if_neg (by omega), if_neg (by omega), if_neg (by omega), if_neg (by omega), if_neg (by omega), if_neg (by omega), if_neg (by omega), if_neg (by omega)]; first | exact bd_zero | exact bd_up bd_zero (by decide)⟩))))))))))))))
end Go.Proofs.YgvaawGreat
