import Derived.Test.YgvaawGreatE13
set_option maxRecDepth 100000
set_option maxHeartbeats 4000000
set_option linter.unusedSimpArgs false
set_option linter.unusedVariables false
namespace Go.Proofs.YgvaawGreat
open Go
section
variable {w w' : World} {H : Store} {col : Nat → Nat} {bc : Nat} {cs : Array Value} {V : EV}
theorem SAt.set {i : Nat} {x y : ESlot} {b : Nat} {c : Array Value} {cap : Nat} {j : Nat} {vs : List Value} {o : Nat} (hA : SAt w H col cs V i x b c cap) (e : o = i * 14 + j) (hw : Wr w w' b (spl c o vs)) (hj : (esC x).take j ++ vs ++ (esC x).drop (j + vs.length) = esC y) (hl : j + vs.length ≤ 14) (hy : y.Ok) : SAt w' H col cs { V with slots := V.slots.set i y } i y b (spl c o vs) cap := by
  subst e
  have hz := hA.fit
  have hlen : (V.slots.set i y).length = V.slots.length := List.length_set
  exact ⟨by show (V.slots.set i y)[i]? = _; rw [List.getElem?_set_self hA.lt], by show cs[2436]? = some (.slice _ (V.slots.set i y).length _); rw [hlen]; exact hA.sl, by show (V.slots.set i y).length ≤ _; rw [hlen]; exact hA.le, hA.mx, by rw [size_spl]; exact hA.sz, hw.blk, hw.blk.rputm hA.row j (by omega) hj (by rw [esC_len]; omega), hy, hA.col⟩
theorem AAt.set {i : Nat} {x y : EAcct} {b : Nat} {c : Array Value} {cap : Nat} {vc vc' : Value} {j : Nat} {vs : List Value} {o : Nat} (hA : AAt w H col cs V i x b c cap vc) (e : o = i * 29 + j) (hw : Wr w w' b (spl c o vs)) (hj : (eaC x vc).take j ++ vs ++ (eaC x vc).drop (j + vs.length) = eaC y vc') (hl : j + vs.length ≤ 29) (hc : BV H vc' y.code) (hy : y.Ok) : AAt w' H col cs { V with accts := V.accts.set i y } i y b (spl c o vs) cap vc' := by
  subst e
  have hz := hA.fit
  have hlen : (V.accts.set i y).length = V.accts.length := List.length_set
  exact ⟨by show (V.accts.set i y)[i]? = _; rw [List.getElem?_set_self hA.lt], by show cs[2435]? = some (.slice _ (V.accts.set i y).length _); rw [hlen]; exact hA.sl, by show (V.accts.set i y).length ≤ _; rw [hlen]; exact hA.le, hA.mx, by rw [size_spl]; exact hA.sz, hw.blk, hw.blk.rputm hA.row j (by omega) hj (by rw [eaC_len]; omega), hc, hy, hA.col⟩
variable {w0 : World} {H0 : Store} {col0 : Nat → Nat} {cs0 : Array Value}
theorem VT.nilL (h : VT w0 H0 col0 bc cs0 w H col cs V) : VM P_log 22 5 w0 H0 col0 bc cs0 w w H col cs V (.slice none 0 0) [] := ⟨h, h.vl.m 5, ⟨0, #[], AR.nil _ _ _ _ _ _, fun e => by cases e⟩, Ch.refl _ _, fun q hq => by cases hq⟩
theorem VT.nilTe (h : VT w0 H0 col0 bc cs0 w H col cs V) : VM P_et 9 6 w0 H0 col0 bc cs0 w w H col cs V (.slice none 0 0) [] := ⟨h, h.vl.m 6, ⟨0, #[], AR.nil _ _ _ _ _ _, fun e => by cases e⟩, Ch.refl _ _, fun q hq => by cases hq⟩
theorem VT.nilTt (h : VT w0 H0 col0 bc cs0 w H col cs V) (hml : V.marks.length ≤ 16384) (x : Wr w w' bc (spl cs 27018 [.slice none 0 0])) : VT w0 H0 col0 bc cs0 w' H col (spl cs 27018 [.slice none 0 0]) { V with tm := false } := by
  obtain ⟨a1, a2, a3, a4, a5, a6, a7, a8, a9, b1, b2, b3, b4, b5, b6, b7⟩ := (h.vl.m 0).parts x (col' := col) (fun _ _ => rfl) (fun b hb => h.vl.new b (Nat.le_trans x.ch.size hb)) h.vl.kept (by omega)
  exact h.wr x (by rw [h.vl.colC]; decide) ⟨a1, a2, a3, a4, fun b hb => h.vl.new b (Nat.le_trans x.ch.size hb), h.vl.kept, a5 (by decide) (by decide), a6 (by decide) (by decide), a7 (by decide) (by decide), a8 (by decide) (by decide), a9 (by decide) (by decide), ⟨_, 0, #[], sp0 (by rw [h.vl.size]; decide), fun _ => rfl, (fun e => by cases e)⟩, b2, b3, b4 hml, b5 (by decide), b6 (by decide), b7⟩ ((Out.refl _ _ _).put (by decide) (by decide))
end
theorem zc_len (z : Value) (k m : Nat) (h : z.cells.size = k) : (Builtin.zeroCells z.cells m).toList.length = m * k := by rw [Array.length_toList, size_zeroCells, h]
theorem zc_one {z : Value} {m : Nat} (h : ∀ v ∈ z.cells.toList, v.one1 = true) : ∀ v ∈ (Builtin.zeroCells z.cells m).toList, v.one1 = true := by
  intro v hv
  unfold Builtin.zeroCells at hv
  simp at hv
  obtain ⟨i, hi, rfl⟩ := hv
  by_cases hs : i % z.cells.size < z.cells.size
  · rw [getElem!_pos z.cells _ hs]
    exact h _ (by simp)
  · have h0 : z.cells.size = 0 := by
      rcases Nat.eq_zero_or_pos z.cells.size with h0 | h0
      · exact h0
      · exact absurd (Nat.mod_lt _ h0) hs
    rw [h0] at hi
    omega
section
variable {n : Nat} {s : Nat → Value} {w : World} {d : Option Nat} {ty : TypeId} {pos : String} {af : Array Edge} {g : Option (Nat × Bool)}
theorem e_clear0 {x : Operand} {T e dl dc : Nat} {a : Option Addr} (hU : Hvaa.prog.underlying T = some (.slice e)) (hx : ev n s x = .slice a dl dc) (h0 : a = none ∨ dl = 0) :
    Eff n s w ⟨d, .call { callee := .builtin .clear, args := #[x], argTypes := #[T] }, ty, pos, af, g⟩ (fun v w' => v = .tuple #[] ∧ w' = w) := by
  refine ⟨fun K Q hK => ?_⟩
  have : (execOp (mk n s).eval ⟨d, .call { callee := .builtin .clear, args := #[x], argTypes := #[T] }, ty, pos, af, g⟩).run Hvaa.prog w = .ok (.value (.tuple #[])) w := by
    rw [mk_eval']
    rcases h0 with rfl | rfl
    · simp [execOp, resolve, invoke, builtin, Builtin.clear_, hx, run_underlying hU]
    · cases a <;> simp [execOp, resolve, invoke, builtin, Builtin.clear_, hx, run_underlying hU]
  unfold Oper.wp
  rw [this]
  exact hK _ _ ⟨rfl, rfl⟩
theorem e_clearJ {w0 : World} {H0 H : Store} {col0 col : Nat → Nat} {bc : Nat} {cs0 cs : Array Value} {V : EV} {x : Operand} {a : Option Addr} {n' c : Nat} (hx : ev n s x = .slice a n' c) (hT : VT w0 H0 col0 bc cs0 w H col cs V) (hs : cs[10629]? = some (.slice a n' c)) :
    Eff n s w ⟨d, .call { callee := .builtin .clear, args := #[x], argTypes := #[79] }, ty, pos, af, g⟩ (fun v w' => v = .tuple #[] ∧ VM P_ee 9 4 w0 H0 col0 bc cs0 w w' H col cs V (.slice a 0 c) [] ∧ Ch (fun b => col b = 4) w w') := by
  obtain ⟨v, b, cur, h1, h2, h3⟩ := hT.vl.jou
  rw [hs] at h1
  cases h1
  rcases h2.gb.at' with ⟨e1, e2⟩ | ⟨cap, e1, e2, e3, e4, e5⟩
  · cases e1
    refine (e_clear0 Hvaa.underlying79 hx (.inl rfl)).mono fun v w' ⟨hv, hw⟩ => ?_
    subst hw
    exact ⟨hv, ⟨hT, hT.vl.m 4, ⟨0, #[], AR.nil _ _ _ _ _ _, fun e => by cases e⟩, Ch.refl _ _, fun q hq => by cases hq⟩, Ch.refl _ _⟩
  · cases e1
    have hc : col b = 4 := h3 rfl
    have hnb : ¬ H.has b := fun hh => by have := hT.vl.kept _ hh; omega
    have key : ∀ (w' : World) (cur' : Array Value), Ch (fun k => k = b) w w' → Blk w' b cur' → cur'.size = cur.size → VM P_ee 9 4 w0 H0 col0 bc cs0 w w' H col cs V (.slice (some ⟨b, 0, none⟩) 0 c) [] ∧ Ch (fun b => col b = 4) w w' := fun w' cur' hch hb hz => by
      have hch2 : Ch (fun b => col b = 4) w w' := hch.mono (fun q _ hq => by rw [hq]; exact hc)
      exact ⟨⟨hT, hT.vl.tr hch2 (fun _ h => h) (by decide) (by decide), ⟨b, cur', ⟨⟨.inr ⟨c, rfl, Nat.zero_le _, e3, by rw [hz]; exact e4, hb⟩⟩, fun i x hx => by simp at hx⟩, fun _ => ⟨.inl hc, hnb⟩⟩, hch2, fun q hq => by cases hq; exact .inl hc⟩, hch2⟩
    by_cases h0 : V.journal.length = 0
    · refine (e_clear0 Hvaa.underlying79 hx (.inr h0)).mono fun v w' ⟨hv, hw⟩ => ?_
      subst hw
      exact ⟨hv, key w' cur (Ch.refl _ _) e5 rfl⟩
    · obtain ⟨m, hm⟩ : ∃ m, V.journal.length = m + 1 := ⟨V.journal.length - 1, by omega⟩
      rw [hm] at hx
      have hzl := zc_len _ 9 (m + 1) (show (Value.agg (([[.int .u8 0], [.int .i32 0], [.int .u64 0], (List.replicate 4 (.int .u64 0)), [.slice none 0 0], [.bool false]] : List (List Value)).flatten : List Value).toArray).cells.size = 9 from rfl)
      refine (e_clear Hvaa.underlying79 zr_218 hx rfl (zc_one (by decide)) e5 (by rw [hzl, Nat.zero_add]; have := Nat.mul_le_mul_right 9 (show m + 1 ≤ c by omega); omega)).mono fun v w' ⟨hv, hw⟩ => ?_
      exact ⟨hv, key w' _ hw.ch hw.blk (size_spl _ _ _)⟩
end
/-! The end of a transaction. -/
def goneAt (V : EV) (i : Nat) : Bool := ((V.accts[i]?).map (fun y => y.gone)).getD false
def endS (V : EV) (x : ESlot) : ESlot := { x with val := if goneAt V x.acct then 0 else x.val, orig := if goneAt V x.acct then 0 else x.val, warm := false }
def endA (x : EAcct) : EAcct := ⟨x.addr, if x.gone then 0 else x.nonce, x.bal, if x.gone then [] else x.code, false, false, false⟩
def mapN {α : Type} (f : α → α) (n : Nat) (l : List α) : List α := (l.take n).map f ++ l.drop n
theorem mapN_len {α : Type} (f : α → α) (n : Nat) (l : List α) : (mapN f n l).length = l.length := by
  unfold mapN
  rw [List.length_append, List.length_map, List.length_take, List.length_drop]
  omega
theorem mapN_get {α : Type} {f : α → α} {n : Nat} {l : List α} {x : α} (h : l[n]? = some x) : (mapN f n l)[n]? = some x := by
  have hlt := (List.getElem?_eq_some_iff.1 h).1
  unfold mapN
  rw [List.getElem?_append_right (by rw [List.length_map, List.length_take]; omega), List.length_map, List.length_take, Nat.min_eq_left (by omega), Nat.sub_self, List.getElem?_drop]
  exact h
theorem mapN_set {α : Type} {f : α → α} {n : Nat} {l : List α} {x : α} (h : l[n]? = some x) : (mapN f n l).set n (f x) = mapN f (n + 1) l := by
  have hlt := (List.getElem?_eq_some_iff.1 h).1
  have h2 := (List.getElem?_eq_some_iff.1 h).2
  unfold mapN
  rw [List.set_append_right (h := by rw [List.length_map, List.length_take]; omega), List.length_map, List.length_take, Nat.min_eq_left (by omega), Nat.sub_self, List.drop_eq_getElem_cons hlt, List.set_cons_zero, List.take_add_one, h, List.map_append, List.append_assoc]
  rfl
theorem mapN_zero {α : Type} (f : α → α) (l : List α) : mapN f 0 l = l := by simp [mapN]
theorem mapN_full {α : Type} (f : α → α) (l : List α) : mapN f l.length l = l.map f := by simp [mapN]
def ndV (V : EV) : EV := { V with journal := [], marks := [], ref := 0, logs := [], temps := [], tm := false }
def endV (V : EV) : EV := { ndV V with slots := V.slots.map (endS V), accts := V.accts.map endA }
theorem v_endTx {w : World} {H : Store} {col : Nat → Nat} {bc : Nat} {cs : Array Value} {V : EV} (hV : VL w H col bc cs V) (ho : VOk V) :
    Ret 119 [.pointer (some ⟨bc, 2435, none⟩)] w (fun v w' => v = .tuple #[] ∧ ∃ col' cs', VT w H col bc cs w' H col' cs' (endV V)) := by
  have hT := VT.refl hV
  have hnw := hV.new
  have hcC := hV.colC
  have hml := ho.bd.marks
  obtain ⟨lj9, lk9, hlJ⟩ := hV.lenJ
  have hsb0 := ho.bd.slots
  have hab0 := ho.bd.accts
  refine enter (n := 127) Hvaa.func119 rfl rfl (Nat.le_of_ble_eq_true rfl) ?_
  have U : Ch (fun _ => True) w w := Ch.refl _ w
  refine c_seq (fun K1 hK1 => ?_)
  exact (by
    refine c_region ?_
    refine l_step (y_moveV (et g0 rfl)) ?_
    refine l_step (y_nil (et g0 rfl)) ?_
    refine l_step (y_fld fld_84_4 (et g0 rfl)) ?_
    refine l_step (y_load1 one_79 (et g0 rfl) (at1 (hT.vl.c1 hlJ rfl))) ?_
    refine l_effN (e_clearJ (et g0 rfl) hT hlJ) (fun v2 w2 h2 => ?_)
    obtain ⟨rfl, hm2, ch2⟩ := h2
    replace hT := hm2
    replace U := U.cc ch2 (by intro b hb; exact .inl trivial)
    refine l_nil ?_
    refine hK1 _ _ ?_
    refine fg1 0 (gS rfl (gS rfl (gS rfl (gS rfl g0)))) (fun g => ?_)
    refine c_seq (fun K3 hK3 => ?_)
    exact (by
      refine c_region ?_
      refine l_step (y_moveV (et g0 rfl)) ?_
      refine l_step (y_moveV (et (gS rfl g0) rfl)) ?_
      refine l_step (y_nil (et g0 rfl)) ?_
      refine l_step (y_fld fld_84_4 (et g0 rfl)) ?_
      refine l_step (y_load1 one_79 (et g0 rfl) (at1 (hT.m.kC.cell hlJ))) ?_
      refine l_step (y_slS010n (j := 0) Hvaa.underlying79 sz_218 (et g0 rfl) rfl ?_) ?_
      omega
      refine l_step (y_nil (et (gS rfl (gS rfl (gS rfl (gS rfl (gS rfl g0))))) rfl)) ?_
      refine l_step (y_fld fld_84_4 (et g0 rfl)) ?_
      refine l_effN (e_store sz_79 (et g0 rfl) (cellsV (et (gS rfl (gS rfl g0)) rfl) rfl) rfl (by intro v hv; simp at hv; subst hv; rfl) hT.m.kC (by rw [hT.m.size]; exact Nat.le_of_ble_eq_true rfl)) (fun v4 w4 h4 => ?_)
      obtain ⟨rfl, x4⟩ := h4
      obtain ⟨col1, hv4, hq4⟩ := hT.layJ hml x4
      replace hT := hv4
      replace U := U.cc x4.ch (by intro b hb; exact .inl trivial)
      replace hcC := hT.vl.colC
      refine l_nil ?_
      refine hK3 _ _ ?_
      refine fg1 0 (gS rfl (gS rfl (gS rfl (gS rfl (gS rfl (gS rfl (gS rfl (gS rfl g0)))))))) (fun g => ?_)
      refine c_seq (fun K5 hK5 => ?_)
      exact (by
        refine c_region ?_
        refine l_step (y_moveV (et g0 rfl)) ?_
        refine l_step (y_nil (et g0 rfl)) ?_
        refine l_step (y_fld fld_84_6 (et g0 rfl)) ?_
        refine l_effN (e_store sz_21 (et g0 rfl) (cellsV rfl rfl) rfl (by intro v hv; simp at hv; subst hv; rfl) hT.vl.kC (by rw [hT.vl.size]; exact Nat.le_of_ble_eq_true rfl)) (fun v6 w6 h6 => ?_)
        obtain ⟨rfl, x6⟩ := h6
        have hv6 := hT.stNm (l := []) (by decide) (fun i m hi => by simp at hi) hml rfl x6
        replace hT := hv6
        replace U := U.cc x6.ch (by intro b hb; exact .inl trivial)
        refine l_nil ?_
        refine hK5 _ _ ?_
        refine fg1 0 (gS rfl (gS rfl (gS rfl g0))) (fun g => ?_)
        refine c_seq (fun K7 hK7 => ?_)
        exact (by
          refine c_region ?_
          refine l_step (y_moveV (et g0 rfl)) ?_
          refine l_step (y_nil (et g0 rfl)) ?_
          refine l_step (y_fld fld_84_7 (et g0 rfl)) ?_
          refine l_effN (e_store sz_26 (et g0 rfl) (cellsV rfl rfl) rfl (by intro v hv; simp at hv; subst hv; rfl) hT.vl.kC (by rw [hT.vl.size]; exact Nat.le_of_ble_eq_true rfl)) (fun v8 w8 h8 => ?_)
          obtain ⟨rfl, x8⟩ := h8
          have hv8 := hT.stRef (n := 0) (show 0 ≤ 16384 by decide) x8
          replace hT := hv8
          replace U := U.cc x8.ch (by intro b hb; exact .inl trivial)
          refine l_nil ?_
          refine hK7 _ _ ?_
          refine fg1 0 (gS rfl (gS rfl (gS rfl g0))) (fun g => ?_)
          refine c_seq (fun K9 hK9 => ?_)
          exact (by
            refine c_region ?_
            refine l_step (y_moveV (et g0 rfl)) ?_
            refine l_step (y_nil (et g0 rfl)) ?_
            refine l_step (y_fld fld_84_8 (et g0 rfl)) ?_
            refine l_effN (e_store sz_42 (et g0 rfl) (cellsV rfl rfl) rfl (by intro v hv; simp at hv; subst hv; rfl) hT.vl.kC (by rw [hT.vl.size]; exact Nat.le_of_ble_eq_true rfl)) (fun v10 w10 h10 => ?_)
            obtain ⟨rfl, x10⟩ := h10
            obtain ⟨col2, hv10, hq10⟩ := hT.nilL.layL (show 0 ≤ 16384 by decide) x10
            replace hT := hv10
            replace U := U.cc x10.ch (by intro b hb; exact .inl trivial)
            replace hcC := hT.vl.colC
            refine l_nil ?_
            refine hK9 _ _ ?_
            refine fg1 0 (gS rfl (gS rfl (gS rfl g0))) (fun g => ?_)
            refine c_seq (fun K11 hK11 => ?_)
            exact (by
              refine c_region ?_
              refine l_step (y_moveV (et g0 rfl)) ?_
              refine l_step (y_nil (et g0 rfl)) ?_
              refine l_step (y_fld fld_84_9 (et g0 rfl)) ?_
              refine l_effN (e_store sz_81 (et g0 rfl) (cellsV rfl rfl) rfl (by intro v hv; simp at hv; subst hv; rfl) hT.vl.kC (by rw [hT.vl.size]; exact Nat.le_of_ble_eq_true rfl)) (fun v12 w12 h12 => ?_)
              obtain ⟨rfl, x12⟩ := h12
              obtain ⟨col3, hv12, hq12⟩ := hT.nilTe.layT (show 0 ≤ 16384 by decide) x12
              replace hT := hv12
              replace U := U.cc x12.ch (by intro b hb; exact .inl trivial)
              replace hcC := hT.vl.colC
              refine l_nil ?_
              refine hK11 _ _ ?_
              refine fg1 0 (gS rfl (gS rfl (gS rfl g0))) (fun g => ?_)
              refine c_seq (fun K13 hK13 => ?_)
              exact (by
                refine c_region ?_
                refine l_step (y_moveV (et g0 rfl)) ?_
                refine l_step (y_nil (et g0 rfl)) ?_
                refine l_step (y_fld fld_84_10 (et g0 rfl)) ?_
                refine l_effN (e_store sz_82 (et g0 rfl) (cellsV rfl rfl) rfl (by intro v hv; simp at hv; subst hv; rfl) hT.vl.kC (by rw [hT.vl.size]; exact Nat.le_of_ble_eq_true rfl)) (fun v14 w14 h14 => ?_)
                obtain ⟨rfl, x14⟩ := h14
                have hv14 := hT.nilTt (show 0 ≤ 16384 by decide) x14
                replace hT := hv14
                replace U := U.cc x14.ch (by intro b hb; exact .inl trivial)
                obtain ⟨col1, cs1, hT⟩ : ∃ col1 cs1, VT w H col bc cs w14 H col1 cs1 (ndV V) := ⟨_, _, hT⟩
                obtain ⟨ls9, lc9, hlS⟩ : ∃ a c, cs1[2436]? = some (.slice a V.slots.length c) := hT.vl.lenS
                replace hcC := hT.vl.colC
                refine l_nil ?_
                refine hK13 _ _ ?_
                refine fg1 0 (gS rfl (gS rfl (gS rfl g0))) (fun g => ?_)
                refine c_seq (fun K15 hK15 => ?_)
                refine c_seq (fun K16 hK16 => ?_)
                exact (by
                  refine c_region ?_
                  refine l_step (y_moveV (et g0 rfl)) ?_
                  refine l_step (y_nil (et g0 rfl)) ?_
                  refine l_step (y_fld fld_84_1 (et g0 rfl)) ?_
                  refine l_step (y_load1 one_77 (et g0 rfl) (at1 (hT.vl.c1 hlS rfl))) ?_
                  refine l_step (y_len Hvaa.underlying77 (et g0 rfl)) ?_
                  refine l_step y_moveC ?_
                  refine l_nil ?_
                  refine hK16 _ _ ?_
                  refine fg3 0 37 38 (gS rfl (gS rfl (gS rfl (gS rfl (gS rfl (gS rfl g0)))))) (gS rfl g0) g0 (fun g => ?_)
                  refine c_block (fun Q17 hQ17 => ?_)
                  refine fg3 0 37 38 (gS rfl (gS rfl g0)) (gS rfl g0) g0 (fun g => ?_)
                  refine c_loop (fun k_ s_ W18 => ∃ (g : Nat → Value) (n : Nat), s_ = (upd (upd (upd g 0 (.pointer (some ⟨bc, 2435, none⟩))) 37 (.int .i64 (V.slots.length : Nat))) 38 (.int .i64 (n : Nat))) ∧ V.slots.length - n = k_ ∧ (n ≤ V.slots.length) ∧ (VT w H col bc cs W18 H col1 cs1 { ndV V with slots := mapN (endS V) n V.slots })) (V.slots.length - (0)) ?_ ?_
                  · exact ⟨g, 0, rfl, rfl, Nat.zero_le _, by rw [mapN_zero]; exact hT⟩
                  · skip
                    intro k_ s_ W18 hI K18 hK18
                    obtain ⟨g, n, rfl, rfl, hn, hT⟩ := hI
                    have U : Ch (fun _ => True) w W18 := hT.go.ch.mono (fun _ _ _ => trivial)
                    refine c_seq (fun K19 hK19 => ?_)
                    exact (by
                      refine c_region ?_
                      refine l_step (y_lss (et g0 rfl) (et (gS rfl g0) rfl)) ?_
                      refine l_nil ?_
                      refine hK19 _ _ ?_
                      refine c_seq (fun K20 hK20 => ?_)
                      refine c_cond (et g0 rfl) (fun cB1 => ?_) (fun cB1 => ?_)
                      · skip
                        
                        have hnl : n < V.slots.length := by have := of_decide_eq_true cB1; omega
                        obtain ⟨x9, hx9⟩ : ∃ x9, V.slots[n]? = some x9 := ⟨_, List.getElem?_eq_getElem hnl⟩
                        obtain ⟨bs9, cx9, cap9, hSS⟩ := hT.vl.slot (i := n) (x := x9) (mapN_get hx9)
                        have hfit := hSS.fit
                        have hok := hSS.ok
                        have hss := hSS.col
                        have hj9 := hSS.lt
                        have hxa := ho.sa x9 (List.mem_of_getElem? hx9)
                        obtain ⟨y9, hy9⟩ : ∃ y9, V.accts[x9.acct]? = some y9 := ⟨_, List.getElem?_eq_getElem hxa⟩
                        obtain ⟨ba9, ca9, capa9, vca9, hAA⟩ := hT.vl.acct (i := x9.acct) (x := y9) hy9
                        have hga : goneAt V x9.acct = y9.gone := by unfold goneAt; rw [hy9]; rfl
                        have hab := ho.bd.accts
                        refine c_skip ?_
                        refine hK20 _ _ ?_
                        refine fg3 0 37 38 (gS rfl (gS rfl (gS rfl g0))) (gS rfl (gS rfl g0)) (gS rfl g0) (fun g => ?_)
                        refine c_seq (fun K22 hK22 => ?_)
                        refine c_block (fun Q23 hQ23 => ?_)
                        refine c_seq (fun K24 hK24 => ?_)
                        exact (by
                          refine c_region ?_
                          refine l_step (y_moveV (et g0 rfl)) ?_
                          refine l_step (y_assignV (et g0 rfl)) ?_
                          refine l_nil ?_
                          refine hK24 _ _ ?_
                          refine fg4 0 37 38 2 (gS rfl (gS rfl (gS rfl (gS rfl g0)))) (gS rfl (gS rfl (gS rfl g0))) (gS rfl (gS rfl g0)) g0 (fun g => ?_)
                          refine c_seq (fun K25 hK25 => ?_)
                          exact (by
                            refine c_region ?_
                            refine l_step (y_moveV (et (gS rfl (gS rfl (gS rfl g0))) rfl)) ?_
                            refine l_step (y_nil (et g0 rfl)) ?_
                            refine l_step (y_fld fld_84_1 (et g0 rfl)) ?_
                            refine l_step (y_load1 one_77 (et g0 rfl) (at1 (hT.vl.c1 hSS.sl rfl))) ?_
                            refine l_step (y_moveV (et (gS rfl (gS rfl (gS rfl (gS rfl g0)))) rfl)) ?_
                            refine l_step (y_idxS Hvaa.underlying77 sz_176 (et (gS rfl g0) rfl) (et g0 rfl) ?_ ?_) ?_
                            omega
                            exact Int.ofNat_lt.2 hj9
                            refine l_step (y_assignV (et g0 rfl)) ?_
                            refine l_nil ?_
                            refine hK25 _ _ ?_
                            refine fg4 0 37 38 3 (gS rfl (gS rfl (gS rfl (gS rfl (gS rfl (gS rfl (gS rfl (gS rfl (gS rfl (gS rfl g0)))))))))) (gS rfl (gS rfl (gS rfl (gS rfl (gS rfl (gS rfl (gS rfl (gS rfl (gS rfl g0))))))))) (gS rfl (gS rfl (gS rfl (gS rfl (gS rfl (gS rfl (gS rfl (gS rfl g0)))))))) g0 (fun g => ?_)
                            refine c_seq (fun K26 hK26 => ?_)
                            refine c_seq (fun K27 hK27 => ?_)
                            exact (by
                              refine c_draw Up 31 [(0, true), (1, true), (2, true), (3, true), (4, true), (5, true), (6, true), (7, true), (8, true), (9, true), (10, true), (11, true), (12, true), (13, true), (14, true), (15, true), (16, true), (17, true), (18, true), (19, true), (20, true), (21, true), (22, true), (23, true), (24, true), (25, true), (26, true), (27, true), (28, true), (29, true), (30, true)] (by kernel_rfl) (fun w28 hu => ⟨Up.refl _, ?_⟩)
                              replace hT := hT.up hu
                              replace hSS := hSS.up hu
                              replace hAA := hAA.up hu
                              replace U := U.tr hu
                              have SU := Up.refl w28
                              refine p_step (by exact rfl) (y_moveV (et g0 rfl)) ?_
                              refine p_step (by exact rfl) (y_nil (et g0 rfl)) ?_
                              refine p_step (by exact rfl) (y_fld fld_176_0 (et g0 rfl)) ?_
                              refine p_step (by exact rfl) (y_load1 one_21 (et g0 rfl) (atS (hSS.cAcct (by omega)))) ?_
                              refine p_step (by exact rfl) (y_geq (et g0 rfl) rfl) ?_
                              refine p_step (by exact rfl) (y_moveV (et g0 rfl)) ?_
                              refine gsplitP (i := 52) g0 (fun q29 => ?_) (fun q29 => ?_)
                              · skip
                                refine p_gstep (j := 5) (t := 52) (by exact rfl) (by exact rfl) (by exact rfl) (et g0 rfl) rfl (y_moveV (et (gS rfl (gS rfl (gS rfl (gS rfl (gS rfl (gS rfl (gS rfl g0))))))) rfl)) ?_
                                refine p_gstep (j := 5) (t := 52) (by exact rfl) (by exact rfl) (by exact rfl) (et (gS rfl g0) rfl) rfl (y_nil (et g0 rfl)) ?_
                                refine p_gstep (j := 5) (t := 52) (by exact rfl) (by exact rfl) (by exact rfl) (et (gS rfl (gS rfl g0)) rfl) rfl (y_fld fld_176_0 (et g0 rfl)) ?_
                                refine p_gstep (j := 5) (t := 52) (by exact rfl) (by exact rfl) (by exact rfl) (et (gS rfl (gS rfl (gS rfl g0))) rfl) rfl (y_load1 one_21 (et g0 rfl) (atS (hSS.cAcct (by omega)))) ?_
                                refine p_gstep (j := 5) (t := 52) (by exact rfl) (by exact rfl) (by exact rfl) (et (gS rfl (gS rfl (gS rfl (gS rfl g0)))) rfl) rfl (y_conv Hvaa.underlying21 Hvaa.underlying3 (et g0 rfl) (wrap_i64 ?_ ?_)) ?_
                                omega
                                omega
                                refine p_gstep (j := 5) (t := 52) (by exact rfl) (by exact rfl) (by exact rfl) (et (gS rfl (gS rfl (gS rfl (gS rfl (gS rfl g0))))) rfl) rfl (y_moveV (et (gS rfl (gS rfl (gS rfl (gS rfl (gS rfl (gS rfl (gS rfl (gS rfl (gS rfl (gS rfl (gS rfl (gS rfl (gS rfl (gS rfl (gS rfl g0))))))))))))))) rfl)) ?_
                                refine p_gstep (j := 5) (t := 52) (by exact rfl) (by exact rfl) (by exact rfl) (et (gS rfl (gS rfl (gS rfl (gS rfl (gS rfl (gS rfl g0)))))) rfl) rfl (y_nil (et g0 rfl)) ?_
                                refine p_gstep (j := 5) (t := 52) (by exact rfl) (by exact rfl) (by exact rfl) (et (gS rfl (gS rfl (gS rfl (gS rfl (gS rfl (gS rfl (gS rfl g0))))))) rfl) rfl (y_fld fld_84_0 (et g0 rfl)) ?_
                                refine p_gstep (j := 5) (t := 52) (by exact rfl) (by exact rfl) (by exact rfl) (et (gS rfl (gS rfl (gS rfl (gS rfl (gS rfl (gS rfl (gS rfl (gS rfl g0)))))))) rfl) rfl (y_load1 one_76 (et g0 rfl) (atS (hT.vl.c1 hAA.sl rfl))) ?_
                                refine p_gstep (j := 5) (t := 52) (by exact rfl) (by exact rfl) (by exact rfl) (et (gS rfl (gS rfl (gS rfl (gS rfl (gS rfl (gS rfl (gS rfl (gS rfl (gS rfl g0))))))))) rfl) rfl (y_len Hvaa.underlying76 (et g0 rfl)) ?_
                                refine p_gstep (j := 5) (t := 52) (by exact rfl) (by exact rfl) (by exact rfl) (et (gS rfl (gS rfl (gS rfl (gS rfl (gS rfl (gS rfl (gS rfl (gS rfl (gS rfl (gS rfl g0)))))))))) rfl) rfl (y_lss (et (gS rfl (gS rfl (gS rfl (gS rfl (gS rfl g0))))) rfl) (et g0 rfl)) ?_
                                refine p_step (by exact rfl) (y_pickT (et (gS rfl (gS rfl (gS rfl (gS rfl (gS rfl (gS rfl (gS rfl (gS rfl (gS rfl (gS rfl (gS rfl g0))))))))))) rfl) (et g0 rfl)) ?_
                                refine p_step (by exact rfl) (y_moveV (et g0 rfl)) ?_
                                refine gsplitP (i := 65) g0 (fun q30 => ?_) (fun q30 => ?_)
                                · skip
                                  refine p_gstep (j := 18) (t := 65) (by exact rfl) (by exact rfl) (by exact rfl) (et g0 rfl) rfl (y_moveV (et (gS rfl (gS rfl (gS rfl (gS rfl (gS rfl (gS rfl (gS rfl (gS rfl (gS rfl (gS rfl (gS rfl (gS rfl (gS rfl (gS rfl (gS rfl (gS rfl (gS rfl (gS rfl (gS rfl (gS rfl (gS rfl (gS rfl (gS rfl (gS rfl g0)))))))))))))))))))))))) rfl)) ?_
                                  refine p_gstep (j := 18) (t := 65) (by exact rfl) (by exact rfl) (by exact rfl) (et (gS rfl g0) rfl) rfl (y_nil (et g0 rfl)) ?_
                                  refine p_gstep (j := 18) (t := 65) (by exact rfl) (by exact rfl) (by exact rfl) (et (gS rfl (gS rfl g0)) rfl) rfl (y_fld fld_84_0 (et g0 rfl)) ?_
                                  refine p_gstep (j := 18) (t := 65) (by exact rfl) (by exact rfl) (by exact rfl) (et (gS rfl (gS rfl (gS rfl g0))) rfl) rfl (y_load1 one_76 (et g0 rfl) (atS (hT.vl.c1 hAA.sl rfl))) ?_
                                  refine p_gstep (j := 18) (t := 65) (by exact rfl) (by exact rfl) (by exact rfl) (et (gS rfl (gS rfl (gS rfl (gS rfl g0)))) rfl) rfl (y_moveV (et (gS rfl (gS rfl (gS rfl (gS rfl (gS rfl (gS rfl (gS rfl (gS rfl (gS rfl (gS rfl (gS rfl (gS rfl (gS rfl (gS rfl (gS rfl (gS rfl (gS rfl (gS rfl (gS rfl (gS rfl (gS rfl (gS rfl (gS rfl (gS rfl (gS rfl g0))))))))))))))))))))))))) rfl)) ?_
                                  refine p_gstep (j := 18) (t := 65) (by exact rfl) (by exact rfl) (by exact rfl) (et (gS rfl (gS rfl (gS rfl (gS rfl (gS rfl g0))))) rfl) rfl (y_nil (et g0 rfl)) ?_
                                  refine p_gstep (j := 18) (t := 65) (by exact rfl) (by exact rfl) (by exact rfl) (et (gS rfl (gS rfl (gS rfl (gS rfl (gS rfl (gS rfl g0)))))) rfl) rfl (y_fld fld_176_0 (et g0 rfl)) ?_
                                  refine p_gstep (j := 18) (t := 65) (by exact rfl) (by exact rfl) (by exact rfl) (et (gS rfl (gS rfl (gS rfl (gS rfl (gS rfl (gS rfl (gS rfl g0))))))) rfl) rfl (y_load1 one_21 (et g0 rfl) (atS (hSS.cAcct (by omega)))) ?_
                                  refine p_gstep (j := 18) (t := 65) (by exact rfl) (by exact rfl) (by exact rfl) (et (gS rfl (gS rfl (gS rfl (gS rfl (gS rfl (gS rfl (gS rfl (gS rfl g0)))))))) rfl) rfl (y_idxS Hvaa.underlying76 sz_167 (et (gS rfl (gS rfl (gS rfl (gS rfl g0)))) rfl) (et g0 rfl) ?_ ?_) ?_
                                  omega
                                  exact Int.ofNat_lt.2 hxa
                                  refine p_gstep (j := 18) (t := 65) (by exact rfl) (by exact rfl) (by exact rfl) (et (gS rfl (gS rfl (gS rfl (gS rfl (gS rfl (gS rfl (gS rfl (gS rfl (gS rfl g0))))))))) rfl) rfl (y_fld fld_167_6 (et g0 rfl)) ?_
                                  refine p_gstep (j := 18) (t := 65) (by exact rfl) (by exact rfl) (by exact rfl) (et (gS rfl (gS rfl (gS rfl (gS rfl (gS rfl (gS rfl (gS rfl (gS rfl (gS rfl (gS rfl g0)))))))))) rfl) rfl (y_load1 one_4 (et g0 rfl) (atS (hAA.cGone (by omega)))) ?_
                                  refine p_step (by exact rfl) (y_pickT (et (gS rfl (gS rfl (gS rfl (gS rfl (gS rfl (gS rfl (gS rfl (gS rfl (gS rfl (gS rfl (gS rfl g0))))))))))) rfl) (et g0 rfl)) ?_
                                  refine p_nil ?_
                                  refine hK27 _ _ ?_
                                  refine fg5 0 37 38 3 77 (gS rfl (gS rfl (gS rfl (gS rfl (gS rfl (gS rfl (gS rfl (gS rfl (gS rfl (gS rfl (gS rfl (gS rfl (gS rfl (gS rfl (gS rfl (gS rfl (gS rfl (gS rfl (gS rfl (gS rfl (gS rfl (gS rfl (gS rfl (gS rfl (gS rfl (gS rfl (gS rfl (gS rfl (gS rfl (gS rfl (gS rfl (gS rfl (gS rfl (gS rfl (gS rfl (gS rfl g0)))))))))))))))))))))))))))))))))))) (gS rfl (gS rfl (gS rfl (gS rfl (gS rfl (gS rfl (gS rfl (gS rfl (gS rfl (gS rfl (gS rfl (gS rfl (gS rfl (gS rfl (gS rfl (gS rfl (gS rfl (gS rfl (gS rfl (gS rfl (gS rfl (gS rfl (gS rfl (gS rfl (gS rfl (gS rfl (gS rfl (gS rfl (gS rfl (gS rfl (gS rfl (gS rfl (gS rfl (gS rfl (gS rfl g0))))))))))))))))))))))))))))))))))) (gS rfl (gS rfl (gS rfl (gS rfl (gS rfl (gS rfl (gS rfl (gS rfl (gS rfl (gS rfl (gS rfl (gS rfl (gS rfl (gS rfl (gS rfl (gS rfl (gS rfl (gS rfl (gS rfl (gS rfl (gS rfl (gS rfl (gS rfl (gS rfl (gS rfl (gS rfl (gS rfl (gS rfl (gS rfl (gS rfl (gS rfl (gS rfl (gS rfl (gS rfl g0)))))))))))))))))))))))))))))))))) (gS rfl (gS rfl (gS rfl (gS rfl (gS rfl (gS rfl (gS rfl (gS rfl (gS rfl (gS rfl (gS rfl (gS rfl (gS rfl (gS rfl (gS rfl (gS rfl (gS rfl (gS rfl (gS rfl (gS rfl (gS rfl (gS rfl (gS rfl (gS rfl (gS rfl (gS rfl (gS rfl (gS rfl (gS rfl (gS rfl (gS rfl (gS rfl (gS rfl g0))))))))))))))))))))))))))))))))) g0 (fun g => ?_)
                                  refine c_cond (et g0 rfl) (fun cB2 => ?_) (fun cB2 => ?_)
                                  · skip
                                    
                                    have hg9 : goneAt V x9.acct = true := by rw [hga]; exact cB2
                                    exact (by
                                      refine c_region ?_
                                      refine l_step (y_moveV (et (gS rfl g0) rfl)) ?_
                                      refine l_step (y_bld bN bld65_z) ?_
                                      refine l_step (y_nil (et (gS rfl g0) rfl)) ?_
                                      refine l_step (y_fld fld_176_2 (et g0 rfl)) ?_
                                      refine l_effN (e_store sz_65 (et g0 rfl) (cellsV (et (gS rfl (gS rfl g0)) rfl) rfl) rfl (by exact one_uL _) hSS.kA (by have h9 := hfit; omega)) (fun v32 w32 h32 => ?_)
                                      obtain ⟨rfl, x32⟩ := h32
                                      have hv32 := hT.setS hSS (j := 5) (y := { x9 with val := 0 }) (by omega) x32 rfl (Nat.le_of_ble_eq_true rfl) ⟨hok.acct, hok.key, (show 0 < W256 by decide), hok.orig⟩
                                      have hs32 := hSS.set (j := 5) (y := { x9 with val := 0 }) (by omega) x32 rfl (Nat.le_of_ble_eq_true rfl) ⟨hok.acct, hok.key, (show 0 < W256 by decide), hok.orig⟩
                                      simp only [List.set_set] at hv32 hs32
                                      replace hT := hv32
                                      replace U := U.cc x32.ch (by intro b hb; exact .inl trivial)
                                      replace hSS := hs32
                                      have hfit := hSS.fit
                                      have hok := hSS.ok
                                      refine l_nil ?_
                                      refine hK26 _ _ ?_
                                      refine fg4 0 37 38 3 (gS rfl (gS rfl (gS rfl (gS rfl (gS rfl (gS rfl (gS rfl (gS rfl g0)))))))) (gS rfl (gS rfl (gS rfl (gS rfl (gS rfl (gS rfl (gS rfl g0))))))) (gS rfl (gS rfl (gS rfl (gS rfl (gS rfl (gS rfl g0)))))) (gS rfl (gS rfl (gS rfl (gS rfl (gS rfl g0))))) (fun g => ?_)
                                      refine c_seq (fun K33 hK33 => ?_)
                                      exact (by
                                        refine c_region ?_
                                        refine l_step (y_moveV (et g0 rfl)) ?_
                                        refine l_step (y_nil (et g0 rfl)) ?_
                                        refine l_step (y_fld fld_176_4 (et g0 rfl)) ?_
                                        refine l_effN (e_store sz_4 (et g0 rfl) (cellsV rfl rfl) rfl (by intro v hv; simp at hv; subst hv; rfl) hSS.kA (by have h9 := hfit; omega)) (fun v34 w34 h34 => ?_)
                                        obtain ⟨rfl, x34⟩ := h34
                                        have hv34 := hT.setS hSS (j := 13) (y := { x9 with val := 0, warm := false }) (by omega) x34 rfl (Nat.le_of_ble_eq_true rfl) ⟨hok.acct, hok.key, hok.val, hok.orig⟩
                                        have hs34 := hSS.set (j := 13) (y := { x9 with val := 0, warm := false }) (by omega) x34 rfl (Nat.le_of_ble_eq_true rfl) ⟨hok.acct, hok.key, hok.val, hok.orig⟩
                                        simp only [List.set_set] at hv34 hs34
                                        replace hT := hv34
                                        replace U := U.cc x34.ch (by intro b hb; exact .inl trivial)
                                        replace hSS := hs34
                                        have hfit := hSS.fit
                                        have hok := hSS.ok
                                        refine l_nil ?_
                                        refine hK33 _ _ ?_
                                        refine fg4 0 37 38 3 (gS rfl (gS rfl (gS rfl (gS rfl (gS rfl (gS rfl g0)))))) (gS rfl (gS rfl (gS rfl (gS rfl (gS rfl g0))))) (gS rfl (gS rfl (gS rfl (gS rfl g0)))) (gS rfl (gS rfl (gS rfl g0))) (fun g => ?_)
                                        refine c_region ?_
                                        refine l_step (y_moveV (et g0 rfl)) ?_
                                        refine l_step (y_moveV (et (gS rfl g0) rfl)) ?_
                                        refine l_step (y_nil (et g0 rfl)) ?_
                                        refine l_step (y_fld fld_176_2 (et g0 rfl)) ?_
                                        refine l_step (y_loadR agg_65 sz_65 (et g0 rfl) rfl (at1R (hSS.rVal (by omega)))) ?_
                                        refine l_step (y_nil (et (gS rfl (gS rfl (gS rfl (gS rfl g0)))) rfl)) ?_
                                        refine l_step (y_fld fld_176_3 (et g0 rfl)) ?_
                                        refine l_effN (e_store sz_65 (et g0 rfl) (cellsV (et (gS rfl (gS rfl g0)) rfl) rfl) rfl (by exact one_uL _) hSS.kA (by have h9 := hfit; omega)) (fun v35 w35 h35 => ?_)
                                        obtain ⟨rfl, x35⟩ := h35
                                        have hv35 := hT.setS hSS (j := 9) (y := { x9 with val := 0, warm := false, orig := 0 }) (by omega) x35 rfl (Nat.le_of_ble_eq_true rfl) ⟨hok.acct, hok.key, hok.val, hok.val⟩
                                        have hs35 := hSS.set (j := 9) (y := { x9 with val := 0, warm := false, orig := 0 }) (by omega) x35 rfl (Nat.le_of_ble_eq_true rfl) ⟨hok.acct, hok.key, hok.val, hok.val⟩
                                        simp only [List.set_set] at hv35 hs35
                                        replace hT := hv35
                                        replace U := U.cc x35.ch (by intro b hb; exact .inl trivial)
                                        replace hSS := hs35
                                        have hfit := hSS.fit
                                        have hok := hSS.ok
                                        have hxe : endS V x9 = { x9 with val := 0, warm := false, orig := 0 } := by unfold endS; rw [hg9]; rfl
                                        rw [← hxe] at hT
                                        refine l_nil ?_
                                        refine hQ23 _ _ _ (in_normal ?_)
                                        refine hK22 _ _ ?_
                                        refine fg3 0 37 38 (gS rfl (gS rfl (gS rfl (gS rfl (gS rfl (gS rfl (gS rfl (gS rfl (gS rfl (gS rfl g0)))))))))) (gS rfl (gS rfl (gS rfl (gS rfl (gS rfl (gS rfl (gS rfl (gS rfl (gS rfl g0))))))))) (gS rfl (gS rfl (gS rfl (gS rfl (gS rfl (gS rfl (gS rfl (gS rfl g0)))))))) (fun g => ?_)
                                        refine c_region ?_
                                        exact (by
                                          refine l_step (y_add (et g0 rfl) rfl (addIN (y := 1) ?_)) ?_
                                          omega
                                          refine l_step (y_moveV (et g0 rfl)) ?_
                                          refine l_nil ?_
                                          refine fK3 0 37 38 (gS rfl (gS rfl (gS rfl (gS rfl g0)))) (gS rfl (gS rfl (gS rfl g0))) g0 (fun g => ?_)
                                          exact hK18 (V.slots.length - ((n + 1))) _ _ (by omega) ⟨g, (n + 1), rfl, rfl, by omega, by rw [← mapN_set hx9]; exact hT⟩)))
                                  · skip
                                    
                                    have hg9 : goneAt V x9.acct = false := by rw [hga]; exact cB2
                                    refine c_skip ?_
                                    refine hK26 _ _ ?_
                                    refine fg4 0 37 38 3 (gS rfl (gS rfl (gS rfl (gS rfl g0)))) (gS rfl (gS rfl (gS rfl g0))) (gS rfl (gS rfl g0)) (gS rfl g0) (fun g => ?_)
                                    refine c_seq (fun K36 hK36 => ?_)
                                    exact (by
                                      refine c_region ?_
                                      refine l_step (y_moveV (et g0 rfl)) ?_
                                      refine l_step (y_nil (et g0 rfl)) ?_
                                      refine l_step (y_fld fld_176_4 (et g0 rfl)) ?_
                                      refine l_effN (e_store sz_4 (et g0 rfl) (cellsV rfl rfl) rfl (by intro v hv; simp at hv; subst hv; rfl) hSS.kA (by have h9 := hfit; omega)) (fun v37 w37 h37 => ?_)
                                      obtain ⟨rfl, x37⟩ := h37
                                      have hv37 := hT.setS hSS (j := 13) (y := { x9 with warm := false }) (by omega) x37 rfl (Nat.le_of_ble_eq_true rfl) ⟨hok.acct, hok.key, hok.val, hok.orig⟩
                                      have hs37 := hSS.set (j := 13) (y := { x9 with warm := false }) (by omega) x37 rfl (Nat.le_of_ble_eq_true rfl) ⟨hok.acct, hok.key, hok.val, hok.orig⟩
                                      simp only [List.set_set] at hv37 hs37
                                      replace hT := hv37
                                      replace U := U.cc x37.ch (by intro b hb; exact .inl trivial)
                                      replace hSS := hs37
                                      have hfit := hSS.fit
                                      have hok := hSS.ok
                                      refine l_nil ?_
                                      refine hK36 _ _ ?_
                                      refine fg4 0 37 38 3 (gS rfl (gS rfl (gS rfl (gS rfl (gS rfl (gS rfl g0)))))) (gS rfl (gS rfl (gS rfl (gS rfl (gS rfl g0))))) (gS rfl (gS rfl (gS rfl (gS rfl g0)))) (gS rfl (gS rfl (gS rfl g0))) (fun g => ?_)
                                      refine c_region ?_
                                      refine l_step (y_moveV (et g0 rfl)) ?_
                                      refine l_step (y_moveV (et (gS rfl g0) rfl)) ?_
                                      refine l_step (y_nil (et g0 rfl)) ?_
                                      refine l_step (y_fld fld_176_2 (et g0 rfl)) ?_
                                      refine l_step (y_loadR agg_65 sz_65 (et g0 rfl) rfl (at1R (hSS.rVal (by omega)))) ?_
                                      refine l_step (y_nil (et (gS rfl (gS rfl (gS rfl (gS rfl g0)))) rfl)) ?_
                                      refine l_step (y_fld fld_176_3 (et g0 rfl)) ?_
                                      refine l_effN (e_store sz_65 (et g0 rfl) (cellsV (et (gS rfl (gS rfl g0)) rfl) rfl) rfl (by exact one_uL _) hSS.kA (by have h9 := hfit; omega)) (fun v38 w38 h38 => ?_)
                                      obtain ⟨rfl, x38⟩ := h38
                                      have hv38 := hT.setS hSS (j := 9) (y := { x9 with warm := false, orig := x9.val }) (by omega) x38 rfl (Nat.le_of_ble_eq_true rfl) ⟨hok.acct, hok.key, hok.val, hok.val⟩
                                      have hs38 := hSS.set (j := 9) (y := { x9 with warm := false, orig := x9.val }) (by omega) x38 rfl (Nat.le_of_ble_eq_true rfl) ⟨hok.acct, hok.key, hok.val, hok.val⟩
                                      simp only [List.set_set] at hv38 hs38
                                      replace hT := hv38
                                      replace U := U.cc x38.ch (by intro b hb; exact .inl trivial)
                                      replace hSS := hs38
                                      have hfit := hSS.fit
                                      have hok := hSS.ok
                                      have hxe : endS V x9 = { x9 with warm := false, orig := x9.val } := by unfold endS; rw [hg9]; rfl
                                      rw [← hxe] at hT
                                      refine l_nil ?_
                                      refine hQ23 _ _ _ (in_normal ?_)
                                      refine hK22 _ _ ?_
                                      refine fg3 0 37 38 (gS rfl (gS rfl (gS rfl (gS rfl (gS rfl (gS rfl (gS rfl (gS rfl (gS rfl (gS rfl g0)))))))))) (gS rfl (gS rfl (gS rfl (gS rfl (gS rfl (gS rfl (gS rfl (gS rfl (gS rfl g0))))))))) (gS rfl (gS rfl (gS rfl (gS rfl (gS rfl (gS rfl (gS rfl (gS rfl g0)))))))) (fun g => ?_)
                                      refine c_region ?_
                                      exact (by
                                        refine l_step (y_add (et g0 rfl) rfl (addIN (y := 1) ?_)) ?_
                                        omega
                                        refine l_step (y_moveV (et g0 rfl)) ?_
                                        refine l_nil ?_
                                        refine fK3 0 37 38 (gS rfl (gS rfl (gS rfl (gS rfl g0)))) (gS rfl (gS rfl (gS rfl g0))) g0 (fun g => ?_)
                                        exact hK18 (V.slots.length - ((n + 1))) _ _ (by omega) ⟨g, (n + 1), rfl, rfl, by omega, by rw [← mapN_set hx9]; exact hT⟩))
                                · skip
                                  exact absurd (of_decide_eq_false q30) (by show ¬ ¬ ((x9.acct : Int) < (V.accts.length : Nat)); omega)
                              · skip
                                exact absurd (of_decide_eq_false q29) (by omega))))
                      · skip
                        
                        have hnl : n = V.slots.length := by have := of_decide_eq_false cB1; omega
                        subst hnl
                        obtain ⟨la9, lb9, hlA⟩ : ∃ a c, cs1[2435]? = some (.slice a V.accts.length c) := hT.vl.lenA
                        refine c_exit ?_
                        refine hQ17 _ _ _ (in_exit ?_)
                        refine hK15 _ _ ?_
                        refine fg1 0 (gS rfl (gS rfl (gS rfl g0))) (fun g => ?_)
                        refine c_seq (fun K39 hK39 => ?_)
                        exact (by
                          refine c_region ?_
                          refine l_step (y_moveV (et g0 rfl)) ?_
                          refine l_step (y_nil (et g0 rfl)) ?_
                          refine l_step (y_fld fld_84_0 (et g0 rfl)) ?_
                          refine l_step (y_load1 one_76 (et g0 rfl) (at1 (hT.vl.c1 hlA rfl))) ?_
                          refine l_step (y_len Hvaa.underlying76 (et g0 rfl)) ?_
                          refine l_step y_moveC ?_
                          refine l_nil ?_
                          refine hK39 _ _ ?_
                          refine fg3 0 97 98 (gS rfl (gS rfl (gS rfl (gS rfl (gS rfl (gS rfl g0)))))) (gS rfl g0) g0 (fun g => ?_)
                          refine c_block (fun Q40 hQ40 => ?_)
                          refine fg3 0 97 98 (gS rfl (gS rfl g0)) (gS rfl g0) g0 (fun g => ?_)
                          refine c_loop (fun k_ s_ W41 => ∃ (g : Nat → Value) (n : Nat), s_ = (upd (upd (upd g 0 (.pointer (some ⟨bc, 2435, none⟩))) 97 (.int .i64 (V.accts.length : Nat))) 98 (.int .i64 (n : Nat))) ∧ V.accts.length - n = k_ ∧ (n ≤ V.accts.length) ∧ (VT w H col bc cs W41 H col1 cs1 { ndV V with slots := V.slots.map (endS V), accts := mapN endA n V.accts })) (V.accts.length - (0)) ?_ ?_
                          · exact ⟨g, 0, rfl, rfl, Nat.zero_le _, by rw [mapN_zero]; rw [mapN_full] at hT; exact hT⟩
                          · skip
                            intro k_ s_ W41 hI K41 hK41
                            obtain ⟨g, n, rfl, rfl, hn, hT⟩ := hI
                            have U : Ch (fun _ => True) w W41 := hT.go.ch.mono (fun _ _ _ => trivial)
                            refine c_seq (fun K42 hK42 => ?_)
                            exact (by
                              refine c_region ?_
                              refine l_step (y_lss (et g0 rfl) (et (gS rfl g0) rfl)) ?_
                              refine l_nil ?_
                              refine hK42 _ _ ?_
                              refine c_seq (fun K43 hK43 => ?_)
                              refine c_cond (et g0 rfl) (fun cB3 => ?_) (fun cB3 => ?_)
                              · skip
                                
                                have hnl : n < V.accts.length := by have := of_decide_eq_true cB3; omega
                                obtain ⟨y9, hy9⟩ : ∃ y9, V.accts[n]? = some y9 := ⟨_, List.getElem?_eq_getElem hnl⟩
                                obtain ⟨ba9, ca9, capa9, vca9, hAA⟩ := hT.vl.acct (i := n) (x := y9) (mapN_get hy9)
                                obtain ⟨va9, vd9, rfl⟩ := hAA.cd
                                have hfit := hAA.fit
                                have hok := hAA.ok
                                have hac := hAA.col
                                have hj9 := hAA.lt
                                refine c_skip ?_
                                refine hK43 _ _ ?_
                                refine fg3 0 97 98 (gS rfl (gS rfl (gS rfl g0))) (gS rfl (gS rfl g0)) (gS rfl g0) (fun g => ?_)
                                refine c_seq (fun K45 hK45 => ?_)
                                refine c_block (fun Q46 hQ46 => ?_)
                                refine c_seq (fun K47 hK47 => ?_)
                                exact (by
                                  refine c_region ?_
                                  refine l_step (y_moveV (et g0 rfl)) ?_
                                  refine l_step (y_assignV (et g0 rfl)) ?_
                                  refine l_nil ?_
                                  refine hK47 _ _ ?_
                                  refine fg4 0 97 98 4 (gS rfl (gS rfl (gS rfl (gS rfl g0)))) (gS rfl (gS rfl (gS rfl g0))) (gS rfl (gS rfl g0)) g0 (fun g => ?_)
                                  refine c_seq (fun K48 hK48 => ?_)
                                  exact (by
                                    refine c_region ?_
                                    refine l_step (y_moveV (et (gS rfl (gS rfl (gS rfl g0))) rfl)) ?_
                                    refine l_step (y_nil (et g0 rfl)) ?_
                                    refine l_step (y_fld fld_84_0 (et g0 rfl)) ?_
                                    refine l_step (y_load1 one_76 (et g0 rfl) (at1 (hT.vl.c1 hAA.sl rfl))) ?_
                                    refine l_step (y_moveV (et (gS rfl (gS rfl (gS rfl (gS rfl g0)))) rfl)) ?_
                                    refine l_step (y_idxS Hvaa.underlying76 sz_167 (et (gS rfl g0) rfl) (et g0 rfl) ?_ ?_) ?_
                                    omega
                                    exact Int.ofNat_lt.2 hj9
                                    refine l_step (y_assignV (et g0 rfl)) ?_
                                    refine l_nil ?_
                                    refine hK48 _ _ ?_
                                    refine fg4 0 97 98 5 (gS rfl (gS rfl (gS rfl (gS rfl (gS rfl (gS rfl (gS rfl (gS rfl (gS rfl (gS rfl g0)))))))))) (gS rfl (gS rfl (gS rfl (gS rfl (gS rfl (gS rfl (gS rfl (gS rfl (gS rfl g0))))))))) (gS rfl (gS rfl (gS rfl (gS rfl (gS rfl (gS rfl (gS rfl (gS rfl g0)))))))) g0 (fun g => ?_)
                                    refine c_seq (fun K49 hK49 => ?_)
                                    refine c_seq (fun K50 hK50 => ?_)
                                    exact (by
                                      refine c_region ?_
                                      refine l_step (y_moveV (et g0 rfl)) ?_
                                      refine l_step (y_nil (et g0 rfl)) ?_
                                      refine l_step (y_fld fld_167_6 (et g0 rfl)) ?_
                                      refine l_step (y_load1 one_4 (et g0 rfl) (at1 (hAA.cGone (by omega)))) ?_
                                      refine l_nil ?_
                                      refine hK50 _ _ ?_
                                      refine fg5 0 97 98 5 110 (gS rfl (gS rfl (gS rfl (gS rfl (gS rfl (gS rfl (gS rfl g0))))))) (gS rfl (gS rfl (gS rfl (gS rfl (gS rfl (gS rfl g0)))))) (gS rfl (gS rfl (gS rfl (gS rfl (gS rfl g0))))) (gS rfl (gS rfl (gS rfl (gS rfl g0)))) g0 (fun g => ?_)
                                      refine c_cond (et g0 rfl) (fun hg9 => ?_) (fun hg9 => ?_)
                                      · skip
                                        
                                        refine c_seq (fun K52 hK52 => ?_)
                                        exact (by
                                          refine c_region ?_
                                          refine l_step (y_moveV (et (gS rfl g0) rfl)) ?_
                                          refine l_step (y_nil (et g0 rfl)) ?_
                                          refine l_step (y_fld fld_167_1 (et g0 rfl)) ?_
                                          refine l_effN (e_store sz_26 (et g0 rfl) (cellsV rfl rfl) rfl (by intro v hv; simp at hv; subst hv; rfl) hAA.kA (by have h9 := hfit; omega)) (fun v53 w53 h53 => ?_)
                                          obtain ⟨rfl, x53⟩ := h53
                                          have hv53 := hT.setA hAA (j := 20) (y := { y9 with nonce := 0 }) (by omega) x53 ea_nonce (Nat.le_of_ble_eq_true rfl) hAA.code ⟨hok.addr, (show 0 < 18446744073709551616 by decide), hok.bal, hok.code⟩
                                          have hs53 := hAA.set (j := 20) (y := { y9 with nonce := 0 }) (by omega) x53 ea_nonce (Nat.le_of_ble_eq_true rfl) hAA.code ⟨hok.addr, (show 0 < 18446744073709551616 by decide), hok.bal, hok.code⟩
                                          simp only [List.set_set] at hv53 hs53
                                          replace hT := hv53
                                          replace U := U.cc x53.ch (by intro b hb; exact .inl trivial)
                                          replace hAA := hs53
                                          have hfit := hAA.fit
                                          have hok := hAA.ok
                                          refine l_nil ?_
                                          refine hK52 _ _ ?_
                                          refine fg4 0 97 98 5 (gS rfl (gS rfl (gS rfl (gS rfl (gS rfl (gS rfl (gS rfl g0))))))) (gS rfl (gS rfl (gS rfl (gS rfl (gS rfl (gS rfl g0)))))) (gS rfl (gS rfl (gS rfl (gS rfl (gS rfl g0))))) (gS rfl (gS rfl (gS rfl (gS rfl g0)))) (fun g => ?_)
                                          refine c_region ?_
                                          refine l_step (y_moveV (et g0 rfl)) ?_
                                          refine l_step (y_nil (et g0 rfl)) ?_
                                          refine l_step (y_fld fld_167_3 (et g0 rfl)) ?_
                                          refine l_effN (e_store sz_38 (et g0 rfl) (cellsV rfl rfl) rfl (by intro v hv; simp at hv; subst hv; rfl) hAA.kA (by have h9 := hfit; omega)) (fun v54 w54 h54 => ?_)
                                          obtain ⟨rfl, x54⟩ := h54
                                          have hv54 := hT.setA hAA (j := 25) (y := { y9 with nonce := 0, code := [] }) (by omega) x54 ea_code (Nat.le_of_ble_eq_true rfl) (BV.nil _) ⟨hok.addr, hok.nonce, hok.bal, (show 0 ≤ 512 by decide)⟩
                                          have hs54 := hAA.set (j := 25) (y := { y9 with nonce := 0, code := [] }) (by omega) x54 ea_code (Nat.le_of_ble_eq_true rfl) (BV.nil _) ⟨hok.addr, hok.nonce, hok.bal, (show 0 ≤ 512 by decide)⟩
                                          simp only [List.set_set] at hv54 hs54
                                          replace hT := hv54
                                          replace U := U.cc x54.ch (by intro b hb; exact .inl trivial)
                                          replace hAA := hs54
                                          have hfit := hAA.fit
                                          have hok := hAA.ok
                                          refine l_nil ?_
                                          refine hK49 _ _ ?_
                                          refine fg4 0 97 98 5 (gS rfl (gS rfl (gS rfl (gS rfl (gS rfl (gS rfl g0)))))) (gS rfl (gS rfl (gS rfl (gS rfl (gS rfl g0))))) (gS rfl (gS rfl (gS rfl (gS rfl g0)))) (gS rfl (gS rfl (gS rfl g0))) (fun g => ?_)
                                          refine c_seq (fun K55 hK55 => ?_)
                                          exact (by
                                            refine c_region ?_
                                            refine l_step (y_moveV (et g0 rfl)) ?_
                                            refine l_step (y_nil (et g0 rfl)) ?_
                                            refine l_step (y_fld fld_167_4 (et g0 rfl)) ?_
                                            refine l_effN (e_store sz_4 (et g0 rfl) (cellsV rfl rfl) rfl (by intro v hv; simp at hv; subst hv; rfl) hAA.kA (by have h9 := hfit; omega)) (fun v56 w56 h56 => ?_)
                                            obtain ⟨rfl, x56⟩ := h56
                                            have hv56 := hT.setA hAA (j := 26) (y := { y9 with nonce := 0, code := [], warm := false }) (by omega) x56 ea_warm (Nat.le_of_ble_eq_true rfl) hAA.code ⟨hok.addr, hok.nonce, hok.bal, hok.code⟩
                                            have hs56 := hAA.set (j := 26) (y := { y9 with nonce := 0, code := [], warm := false }) (by omega) x56 ea_warm (Nat.le_of_ble_eq_true rfl) hAA.code ⟨hok.addr, hok.nonce, hok.bal, hok.code⟩
                                            simp only [List.set_set] at hv56 hs56
                                            replace hT := hv56
                                            replace U := U.cc x56.ch (by intro b hb; exact .inl trivial)
                                            replace hAA := hs56
                                            have hfit := hAA.fit
                                            have hok := hAA.ok
                                            refine l_nil ?_
                                            refine hK55 _ _ ?_
                                            refine fg4 0 97 98 5 (gS rfl (gS rfl (gS rfl (gS rfl (gS rfl (gS rfl g0)))))) (gS rfl (gS rfl (gS rfl (gS rfl (gS rfl g0))))) (gS rfl (gS rfl (gS rfl (gS rfl g0)))) (gS rfl (gS rfl (gS rfl g0))) (fun g => ?_)
                                            refine c_seq (fun K57 hK57 => ?_)
                                            exact (by
                                              refine c_region ?_
                                              refine l_step (y_moveV (et g0 rfl)) ?_
                                              refine l_step (y_nil (et g0 rfl)) ?_
                                              refine l_step (y_fld fld_167_5 (et g0 rfl)) ?_
                                              refine l_effN (e_store sz_4 (et g0 rfl) (cellsV rfl rfl) rfl (by intro v hv; simp at hv; subst hv; rfl) hAA.kA (by have h9 := hfit; omega)) (fun v58 w58 h58 => ?_)
                                              obtain ⟨rfl, x58⟩ := h58
                                              have hv58 := hT.setA hAA (j := 27) (y := { y9 with nonce := 0, code := [], warm := false, made := false }) (by omega) x58 ea_made (Nat.le_of_ble_eq_true rfl) hAA.code ⟨hok.addr, hok.nonce, hok.bal, hok.code⟩
                                              have hs58 := hAA.set (j := 27) (y := { y9 with nonce := 0, code := [], warm := false, made := false }) (by omega) x58 ea_made (Nat.le_of_ble_eq_true rfl) hAA.code ⟨hok.addr, hok.nonce, hok.bal, hok.code⟩
                                              simp only [List.set_set] at hv58 hs58
                                              replace hT := hv58
                                              replace U := U.cc x58.ch (by intro b hb; exact .inl trivial)
                                              replace hAA := hs58
                                              have hfit := hAA.fit
                                              have hok := hAA.ok
                                              refine l_nil ?_
                                              refine hK57 _ _ ?_
                                              refine fg4 0 97 98 5 (gS rfl (gS rfl (gS rfl (gS rfl (gS rfl (gS rfl g0)))))) (gS rfl (gS rfl (gS rfl (gS rfl (gS rfl g0))))) (gS rfl (gS rfl (gS rfl (gS rfl g0)))) (gS rfl (gS rfl (gS rfl g0))) (fun g => ?_)
                                              refine c_region ?_
                                              refine l_step (y_moveV (et g0 rfl)) ?_
                                              refine l_step (y_nil (et g0 rfl)) ?_
                                              refine l_step (y_fld fld_167_6 (et g0 rfl)) ?_
                                              refine l_effN (e_store sz_4 (et g0 rfl) (cellsV rfl rfl) rfl (by intro v hv; simp at hv; subst hv; rfl) hAA.kA (by have h9 := hfit; omega)) (fun v59 w59 h59 => ?_)
                                              obtain ⟨rfl, x59⟩ := h59
                                              have hv59 := hT.setA hAA (j := 28) (y := { y9 with nonce := 0, code := [], warm := false, made := false, gone := false }) (by omega) x59 ea_gone (Nat.le_of_ble_eq_true rfl) hAA.code ⟨hok.addr, hok.nonce, hok.bal, hok.code⟩
                                              have hs59 := hAA.set (j := 28) (y := { y9 with nonce := 0, code := [], warm := false, made := false, gone := false }) (by omega) x59 ea_gone (Nat.le_of_ble_eq_true rfl) hAA.code ⟨hok.addr, hok.nonce, hok.bal, hok.code⟩
                                              simp only [List.set_set] at hv59 hs59
                                              replace hT := hv59
                                              replace U := U.cc x59.ch (by intro b hb; exact .inl trivial)
                                              replace hAA := hs59
                                              have hfit := hAA.fit
                                              have hok := hAA.ok
                                              have hxe : endA y9 = { y9 with nonce := 0, code := [], warm := false, made := false, gone := false } := by unfold endA; rw [hg9]; rfl
                                              rw [← hxe] at hT
                                              refine l_nil ?_
                                              refine hQ46 _ _ _ (in_normal ?_)
                                              refine hK45 _ _ ?_
                                              refine fg3 0 97 98 (gS rfl (gS rfl (gS rfl (gS rfl (gS rfl (gS rfl g0)))))) (gS rfl (gS rfl (gS rfl (gS rfl (gS rfl g0))))) (gS rfl (gS rfl (gS rfl (gS rfl g0)))) (fun g => ?_)
                                              refine c_region ?_
                                              exact (by
                                                refine l_step (y_add (et g0 rfl) rfl (addIN (y := 1) ?_)) ?_
                                                omega
                                                refine l_step (y_moveV (et g0 rfl)) ?_
                                                refine l_nil ?_
                                                refine fK3 0 97 98 (gS rfl (gS rfl (gS rfl (gS rfl g0)))) (gS rfl (gS rfl (gS rfl g0))) g0 (fun g => ?_)
                                                exact hK41 (V.accts.length - ((n + 1))) _ _ (by omega) ⟨g, (n + 1), rfl, rfl, by omega, by rw [← mapN_set hy9]; exact hT⟩))))
                                      · skip
                                        
                                        refine c_skip ?_
                                        refine hK49 _ _ ?_
                                        refine fg4 0 97 98 5 (gS rfl (gS rfl (gS rfl (gS rfl g0)))) (gS rfl (gS rfl (gS rfl g0))) (gS rfl (gS rfl g0)) (gS rfl g0) (fun g => ?_)
                                        refine c_seq (fun K60 hK60 => ?_)
                                        exact (by
                                          refine c_region ?_
                                          refine l_step (y_moveV (et g0 rfl)) ?_
                                          refine l_step (y_nil (et g0 rfl)) ?_
                                          refine l_step (y_fld fld_167_4 (et g0 rfl)) ?_
                                          refine l_effN (e_store sz_4 (et g0 rfl) (cellsV rfl rfl) rfl (by intro v hv; simp at hv; subst hv; rfl) hAA.kA (by have h9 := hfit; omega)) (fun v61 w61 h61 => ?_)
                                          obtain ⟨rfl, x61⟩ := h61
                                          have hv61 := hT.setA hAA (j := 26) (y := { y9 with warm := false }) (by omega) x61 ea_warm (Nat.le_of_ble_eq_true rfl) hAA.code ⟨hok.addr, hok.nonce, hok.bal, hok.code⟩
                                          have hs61 := hAA.set (j := 26) (y := { y9 with warm := false }) (by omega) x61 ea_warm (Nat.le_of_ble_eq_true rfl) hAA.code ⟨hok.addr, hok.nonce, hok.bal, hok.code⟩
                                          simp only [List.set_set] at hv61 hs61
                                          replace hT := hv61
                                          replace U := U.cc x61.ch (by intro b hb; exact .inl trivial)
                                          replace hAA := hs61
                                          have hfit := hAA.fit
                                          have hok := hAA.ok
                                          refine l_nil ?_
                                          refine hK60 _ _ ?_
                                          refine fg4 0 97 98 5 (gS rfl (gS rfl (gS rfl (gS rfl (gS rfl (gS rfl g0)))))) (gS rfl (gS rfl (gS rfl (gS rfl (gS rfl g0))))) (gS rfl (gS rfl (gS rfl (gS rfl g0)))) (gS rfl (gS rfl (gS rfl g0))) (fun g => ?_)
                                          refine c_seq (fun K62 hK62 => ?_)
                                          exact (by
                                            refine c_region ?_
                                            refine l_step (y_moveV (et g0 rfl)) ?_
                                            refine l_step (y_nil (et g0 rfl)) ?_
                                            refine l_step (y_fld fld_167_5 (et g0 rfl)) ?_
                                            refine l_effN (e_store sz_4 (et g0 rfl) (cellsV rfl rfl) rfl (by intro v hv; simp at hv; subst hv; rfl) hAA.kA (by have h9 := hfit; omega)) (fun v63 w63 h63 => ?_)
                                            obtain ⟨rfl, x63⟩ := h63
                                            have hv63 := hT.setA hAA (j := 27) (y := { y9 with warm := false, made := false }) (by omega) x63 ea_made (Nat.le_of_ble_eq_true rfl) hAA.code ⟨hok.addr, hok.nonce, hok.bal, hok.code⟩
                                            have hs63 := hAA.set (j := 27) (y := { y9 with warm := false, made := false }) (by omega) x63 ea_made (Nat.le_of_ble_eq_true rfl) hAA.code ⟨hok.addr, hok.nonce, hok.bal, hok.code⟩
                                            simp only [List.set_set] at hv63 hs63
                                            replace hT := hv63
                                            replace U := U.cc x63.ch (by intro b hb; exact .inl trivial)
                                            replace hAA := hs63
                                            have hfit := hAA.fit
                                            have hok := hAA.ok
                                            refine l_nil ?_
                                            refine hK62 _ _ ?_
                                            refine fg4 0 97 98 5 (gS rfl (gS rfl (gS rfl (gS rfl (gS rfl (gS rfl g0)))))) (gS rfl (gS rfl (gS rfl (gS rfl (gS rfl g0))))) (gS rfl (gS rfl (gS rfl (gS rfl g0)))) (gS rfl (gS rfl (gS rfl g0))) (fun g => ?_)
                                            refine c_region ?_
                                            refine l_step (y_moveV (et g0 rfl)) ?_
                                            refine l_step (y_nil (et g0 rfl)) ?_
                                            refine l_step (y_fld fld_167_6 (et g0 rfl)) ?_
                                            refine l_effN (e_store sz_4 (et g0 rfl) (cellsV rfl rfl) rfl (by intro v hv; simp at hv; subst hv; rfl) hAA.kA (by have h9 := hfit; omega)) (fun v64 w64 h64 => ?_)
                                            obtain ⟨rfl, x64⟩ := h64
                                            have hv64 := hT.setA hAA (j := 28) (y := { y9 with warm := false, made := false, gone := false }) (by omega) x64 ea_gone (Nat.le_of_ble_eq_true rfl) hAA.code ⟨hok.addr, hok.nonce, hok.bal, hok.code⟩
                                            have hs64 := hAA.set (j := 28) (y := { y9 with warm := false, made := false, gone := false }) (by omega) x64 ea_gone (Nat.le_of_ble_eq_true rfl) hAA.code ⟨hok.addr, hok.nonce, hok.bal, hok.code⟩
                                            simp only [List.set_set] at hv64 hs64
                                            replace hT := hv64
                                            replace U := U.cc x64.ch (by intro b hb; exact .inl trivial)
                                            replace hAA := hs64
                                            have hfit := hAA.fit
                                            have hok := hAA.ok
                                            have hxe : endA y9 = { y9 with warm := false, made := false, gone := false } := by unfold endA; rw [hg9]; rfl
                                            rw [← hxe] at hT
                                            refine l_nil ?_
                                            refine hQ46 _ _ _ (in_normal ?_)
                                            refine hK45 _ _ ?_
                                            refine fg3 0 97 98 (gS rfl (gS rfl (gS rfl (gS rfl (gS rfl (gS rfl g0)))))) (gS rfl (gS rfl (gS rfl (gS rfl (gS rfl g0))))) (gS rfl (gS rfl (gS rfl (gS rfl g0)))) (fun g => ?_)
                                            refine c_region ?_
                                            exact (by
                                              refine l_step (y_add (et g0 rfl) rfl (addIN (y := 1) ?_)) ?_
                                              omega
                                              refine l_step (y_moveV (et g0 rfl)) ?_
                                              refine l_nil ?_
                                              refine fK3 0 97 98 (gS rfl (gS rfl (gS rfl (gS rfl g0)))) (gS rfl (gS rfl (gS rfl g0))) g0 (fun g => ?_)
                                              exact hK41 (V.accts.length - ((n + 1))) _ _ (by omega) ⟨g, (n + 1), rfl, rfl, by omega, by rw [← mapN_set hy9]; exact hT⟩))))))
                              · skip
                                
                                have hnl : n = V.accts.length := by have := of_decide_eq_false cB3; omega
                                subst hnl
                                rw [mapN_full] at hT
                                refine c_exit ?_
                                refine hQ40 _ _ _ (in_exit ?_)
                                refine end0 rfl ?_
                                exact ⟨rfl, _, _, hT⟩)))))))))))
end Go.Proofs.YgvaawGreat
