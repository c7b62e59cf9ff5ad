import Derived.Test.YgvaawGreatW1
set_option maxRecDepth 100000
set_option maxHeartbeats 4000000
set_option linter.unusedSimpArgs false
set_option linter.unusedVariables false
namespace Go.Proofs.YgvaawGreat
open Go
structure Rm (V : EV) : Prop where
  a : V.accts.length < 2560
  s : V.slots.length < 2560
  j : V.journal.length < 65536
  t : V.temps.length < 12288
  l : V.logs.length < 2800
  m : V.marks.length < 16384
section
variable {w0 w w' : World} {H0 H H' : Store} {col0 col col' : Nat → Nat} {bc : Nat} {cs cs' : Array Value} {V V' : EV} {s : YSt} {sn : List Nat} {sv : List AW} {ms : List (List Nat)} {c c' : Nat} {low : List YF} {f : YF}
theorem EX.room (h : EX w H col bc cs V s sn sv ms c) (ha : s.applied ≤ 4) : Rm V := by
  have hp := h.px.pot
  have h1 := hp.a
  have h2 := hp.s
  have h3 := hp.j
  have h4 := hp.t
  have h5 := hp.l
  have h6 := hp.m
  exact ⟨by omega, by omega, by omega, by omega, by omega, by omega⟩
theorem Pot.le {V : EV} {sv : List AW} {t g g' : Nat} (h : Pot V sv t g) (hg : g' ≤ g) : Pot V sv t g' :=
  ⟨by have := h.a; omega, by have := h.s; omega, by have := h.j; omega, by have := h.t; omega, by have := h.l; omega, by have := h.m; omega, by have := h.r; omega, fun A hA => by have := h.sr A hA; omega⟩
theorem EX.slack (h : EX w H col bc cs V s sn sv ms c) (hc : c' ≤ c) : EX w H col bc cs V s sn sv ms c' := ⟨h.vl, h.ok, h.lx, h.mx, ⟨h.px.va, h.px.snp, h.px.inc, h.px.has, h.px.org, h.px.pot.le (by omega)⟩⟩
theorem XT.slack (h : XT w0 H0 col0 w H col bc cs V s sn sv ms c) (hc : c' ≤ c) : XT w0 H0 col0 w H col bc cs V s sn sv ms c' := ⟨h.ex.slack hc, h.et⟩
theorem acR (h : V.accts.length < 2560) (a : Nat) : ∃ na, na ≤ 1 ∧ ((hasA V a ∧ na = 0) ∨ (V.accts.length < 2560 ∧ na = 1)) := by
  by_cases e : hasA V a
  · exact ⟨0, by decide, .inl ⟨e, rfl⟩⟩
  · exact ⟨1, by decide, .inr ⟨h, rfl⟩⟩
theorem slR (h : V.slots.length < 2560) (a k : Nat) : ∃ ns, ns ≤ 1 ∧ ((hasS V a k ∧ ns = 0) ∨ (V.slots.length < 2560 ∧ ns = 1)) := by
  by_cases e : hasS V a k
  · exact ⟨0, by decide, .inl ⟨e, rfl⟩⟩
  · exact ⟨1, by decide, .inr ⟨h, rfl⟩⟩
theorem teR (h : V.temps.length < 12288) (a k : Nat) : ∃ nt, nt ≤ 1 ∧ ((hasT V a k ∧ nt = 0) ∨ (V.temps.length < 12288 ∧ nt = 1)) := by
  by_cases e : hasT V a k
  · exact ⟨0, by decide, .inl ⟨e, rfl⟩⟩
  · exact ⟨1, by decide, .inr ⟨h, rfl⟩⟩
/-- a call of the vault that leaves the refund -/
theorem XT.vt0 {F : AW → AW} {na ns nt nj nl : Nat} {W : YWorld} (h : XT w0 H0 col0 w H col bc cs V s sn sv ms c) (t : VT w H col bc cs w' H' col' cs' V') (ok : VOk V') (js : JS V V' F na ns nt nj nl) (hF : absY W = F (absY s.now)) (hr : ∀ A, (F A).refund = A.refund) (hc : c' + 2600 * na ≤ c ∧ c' + 2100 * ns ≤ c ∧ c' + 100 * nt ≤ c ∧ c' + 25 * nj ≤ c ∧ c' + 375 * nl ≤ c) : XT w0 H0 col0 w' H' col' bc cs' V' { s with now := W } sn sv ms c' := by
  have e : V'.ref = V.ref := by
    have h1 := congrArg AW.refund (js.va h.ex.px.va).abs
    have h2 := congrArg AW.refund h.ex.px.va.abs
    rw [hr] at h1
    exact h1.trans h2.symm
  exact h.vt t ok js hF.symm hc (by rw [e]; omega)
theorem EX.hasW {a : Nat} (h : EX w H col bc cs V s sn sv ms c) (ha : a ∈ s.now.warmA) : hasA V a := by
  have h1 := h.wa a
  rw [decide_eq_true ha] at h1
  refine Classical.byContradiction fun hn => ?_
  have : (absV V).warmA a = false := by
    show (ax V a).warm = false
    unfold ax
    have e : V.accts[ai V a]? = none := by
      rw [List.getElem?_eq_none_iff]
      unfold ai
      have h2 := List.idxOf_eq_length hn
      rw [h2]
      unfold aKs
      simp
    rw [e]
    rfl
  rw [this] at h1
  cases h1
/-- what stays readable while the vault is turned: cell 0 of the chain, and nobody's blocks -/
structure SX (col : Nat → Nat) (bc : Nat) (w0 w' : World) : Prop where
  ch : Ch (fun b => col b ≠ 0) w0 w'
  pS : w'.cell? ⟨bc, 0, none⟩ = some (.pointer (some ⟨bc, 2435, none⟩))
theorem SX.refl (h : XT w0 H0 col0 w H col bc cs V s sn sv ms c) : SX col bc w w := ⟨Ch.refl _ _, h.ex.vl.c1 h.ex.lx.pS rfl⟩
theorem SX.tr {w2 : World} (h : SX col bc w w') (u : Up w' w2) : SX col bc w w2 := ⟨h.ch.tr u, u.cell h.pS⟩
theorem SX.xc {w2 : World} {M : Nat → Prop} (h : SX col bc w w') (u : Ch M w' w2) (hp : w2.cell? ⟨bc, 0, none⟩ = some (.pointer (some ⟨bc, 2435, none⟩))) (hM : ∀ b, b < w.heap.size → M b → col b ≠ 0) : SX col bc w w2 := ⟨h.ch.cc u (fun b hb => by
  by_cases hlt : b < w.heap.size
  · exact .inl (hM b hlt hb)
  · exact .inr (by omega)), hp⟩
theorem cq_refl (h : XT w0 H0 col0 w H col bc cs V s sn sv ms c) : ∀ b, b < w.heap.size → col b = col b := fun _ _ => rfl
theorem cq_step {n m : Nat} {c0 c1 c2 : Nat → Nat} (h : ∀ b, b < n → c1 b = c0 b) (t : ∀ b, b < m → c2 b = c1 b) (hs : n ≤ m) : ∀ b, b < n → c2 b = c0 b := fun b hb => (t b (by omega)).trans (h b hb)
theorem atXP : ∀ w', SX col bc w w' → w'.cell? ⟨bc, 0, none⟩ = some (.pointer (some ⟨bc, 2435, none⟩)) := fun _ h => h.pS
theorem atX {b o : Nat} {v : Value} (h : w.cell? ⟨b, o, none⟩ = some v) (hM : col b = 0) : ∀ w', SX col bc w w' → w'.cell? ⟨b, o, none⟩ = some v := fun w' e => e.ch.cell (fun h => h hM) h
theorem atXR {b o : Nat} {vs : List Value} (h : Row w b o vs) (hM : col b = 0) : ∀ w', SX col bc w w' → Row w' b o vs := fun w' e => h.ch e.ch (fun h => h hM)
theorem atXB {b : Nat} {vs : Array Value} (h : Blk w b vs) (hM : col b = 0) : ∀ w', SX col bc w w' → Blk w' b vs := fun w' e => h.ch e.ch (fun h => h hM)
theorem withA_in {l : List Nat} {a : Nat} (h : a ∈ l) : withA l a = l := if_pos h
theorem bv_new {b : Nat} {l : List Nat} (hF : Fz w H) (u : Up w w') (hb : Blk w' b (bL l).toArray) (hf : w.heap.size ≤ b) (hd : Dig 256 l) (hl : l.length ≤ 1099511627776) : ∃ H', Go No w H w' H' ∧ BV H' (.slice (some ⟨b, 0, none⟩) l.length l.length) l := OB.bv ⟨hd, .inr ⟨_, rfl, hf, hb.lt, by omega, hb⟩⟩ (Go.ofUp hF u) hF
theorem rd_in {m : List Nat} {x y : Nat} (h0 : y ≠ 0) (h : x + y ≤ m.length) : rdN m x y = (m.drop x).take y := by
  unfold rdN cutN
  rw [if_neg h0, show y - (m.length - x) = 0 by omega]
  simp
theorem EX.mRead {lo : List (List Nat)} {m : List Nat} (hE : EX w H col bc cs V s sn sv ms c) (hms : ms = lo ++ [m]) (off k : Nat) (hk : 0 < k) (hok : off + k ≤ m.length) : Ret 381 [.pointer (some ⟨bc, 1, none⟩), .int .u32 (off : Nat), .int .u32 (k : Nat)] w (fun v w' => ∃ b, v = .slice (some ⟨b, 0, none⟩) k k ∧ Blk w' b (bL ((m.drop off).take k)).toArray ∧ w.heap.size ≤ b ∧ Up w w') := by
  obtain ⟨bm, cm, n, hM⟩ := hE.mx
  subst hms
  exact g_read hE.vl.kC hM hE.vl.colC off k hk hok
theorem EX.memDig {lo : List (List Nat)} {m : List Nat} (hE : EX w H col bc cs V s sn sv ms c) (hms : ms = lo ++ [m]) : Dig 256 m := by
  obtain ⟨bm, cm, n, hM⟩ := hE.mx
  exact hM.dg m (by rw [hms]; simp)
end
theorem m_warmAcct {w : World} {H : Store} {col : Nat → Nat} {bc : Nat} {cs : Array Value} {V : EV} {s : YSt} {sn : List Nat} {sv : List AW} {ms : List (List Nat)} {c : Nat} {low : List YF} {f : YF} (hE : EX w H col bc cs V s sn sv ms c) (hs : s.frames = low ++ [f]) (hp : s.phase = 1) (a : Nat) (ha : a < A160) {c' : Nat} (hap : s.applied ≤ 4) (hc1 : c' ≤ c) (hc2 : a ∉ s.now.warmA → c' + 2600 ≤ c) :
    Ret 294 [.pointer (some ⟨bc, 0, none⟩), aV a] w (fun v w' => v = .bool true ∧ ∃ col' cs' V', XT w H col w' H col' bc cs' V' { s with now := { s.now with warmA := withA s.now.warmA a } } sn sv ms c') := by
  obtain ⟨n9, hn9, hR⟩ := hE.topF hs
  have hB := hE.fbT hs
  have h6 := hE.six hs
  have htop := hE.cTop hs
  have hphs := hE.cPh hp
  have hbp := hB.pc
  have hbs := hB.stk
  have hbg := hB.gas
  have hbc9 := hB.code
  have hnw := hE.vl.new
  have hfz := hE.vl.fz
  have hcC := hE.vl.colC
  have hbc0 := hE.vl.kC.lt
  have hX := XT.refl hE
  have hro := hE.room hap
  obtain ⟨na9, hna8, hna9⟩ := acR hro.a a
  refine enter (n := 19) Hvaa.func294 rfl rfl (Nat.le_of_ble_eq_true rfl) ?_
  have U : Ch (fun _ => True) w w := Ch.refl _ w
  refine c_seq (fun K1 hK1 => ?_)
  exact (by
    refine c_region ?_
    refine l_eff (e_boxV (et (gS rfl g0) rfl)) (fun v2 w2 h2 => ?_)
    obtain ⟨b2, rfl, n2⟩ := h2
    have f2 : w.heap.size ≤ b2 := Nat.le_trans U.size n2.fresh
    replace hX := hX.up n2.up
    replace U := U.tr n2.up
    have k2 := n2.blk
    replace k2 : Blk w2 b2 (bL (be 20 a)).toArray := k2
    have nc2 : col b2 = 0 := hnw _ f2
    refine l_step y_assignC ?_
    refine l_nil ?_
    refine hK1 _ _ ?_
    refine fg2 0 3 (gS rfl (gS rfl g0)) (gS rfl g0) (fun g => ?_)
    refine c_seq (fun K3 hK3 => ?_)
    exact (by
      refine c_draw (SX _ bc) 15 [(0, true), (1, true), (2, true), (3, true), (4, true), (5, false), (6, true), (7, true), (8, true), (9, true), (10, true), (11, true), (12, false), (13, true), (14, true)] (by kernel_rfl) (fun w4 hu => ⟨SX.refl (hX.up hu), ?_⟩)
      replace k2 := k2.up hu
      replace hX := hX.up hu
      replace U := U.tr hu
      have SU := SX.refl hX
      have cq := cq_refl hX
      have hX_s := hX
      have k2_s := k2
      refine p_step (by exact rfl) (y_moveV (et (gS rfl g0) rfl)) ?_
      refine p_step (by exact rfl) (y_nil (et g0 rfl)) ?_
      refine p_step (by exact rfl) (y_fld fld_75_0 (et g0 rfl)) ?_
      refine p_step (by exact rfl) (y_load1 one_59 (et g0 rfl) (atXP)) ?_
      refine p_step (by exact rfl) (y_loadB agg_25 sz_25 (et (gS rfl (gS rfl (gS rfl (gS rfl g0)))) rfl) (by rw [List.size_toArray, length_bL, length_be]) (atXB k2_s (by omega))) ?_
      refine p_eff (by exact rfl) (e_callV cal_172 (aC (et (gS rfl g0) rfl) (aC (et g0 rfl) aN)) (v_isWarmAcct hX.ex.vl hX.ex.ok _ (by first | exact Nat.mod_lt _ A160_pos | exact hB.self | exact hB.caller | assumption))) (fun v5 w5 h5 => ?_)
      obtain ⟨rfl, u5⟩ := h5
      replace k2 := k2.up u5
      replace hX := hX.up u5
      replace U := U.tr u5
      refine ⟨.inr (SU.tr u5), ?_⟩
      replace SU := SU.tr u5
      refine p_step (by exact rfl) (y_moveV (et g0 rfl)) ?_
      refine gsplitP (i := 11) g0 (fun q6 => ?_) (fun q6 => ?_)
      · skip
        rw [hX.ex.wa] at q6
        have hin9 := of_decide_eq_true q6
        refine p_gskip (j := 6) (t := 11) (by exact rfl) (by exact rfl) (by exact rfl) (et g0 rfl) rfl rfl ?_
        refine p_gskip (j := 6) (t := 11) (by exact rfl) (by exact rfl) (by exact rfl) (et (gS rfl g0) rfl) rfl rfl ?_
        refine p_gskip (j := 6) (t := 11) (by exact rfl) (by exact rfl) (by exact rfl) (et (gS rfl (gS rfl g0)) rfl) rfl rfl ?_
        refine p_gskip (j := 6) (t := 11) (by exact rfl) (by exact rfl) (by exact rfl) (et (gS rfl (gS rfl (gS rfl g0))) rfl) rfl rfl ?_
        refine p_gskip (j := 6) (t := 11) (by exact rfl) (by exact rfl) (by exact rfl) (et (gS rfl (gS rfl (gS rfl (gS rfl g0)))) rfl) rfl rfl ?_
        refine p_geskip (j := 6) (t := 11) (by exact rfl) (by exact rfl) (by exact rfl) (et (gS rfl (gS rfl (gS rfl (gS rfl (gS rfl g0))))) rfl) rfl rfl ⟨.inr SU, ?_⟩
        refine p_step (by exact rfl) (y_pickT (et (gS rfl (gS rfl (gS rfl (gS rfl (gS rfl (gS rfl g0)))))) rfl) rfl) ?_
        refine p_step (by exact rfl) (y_assignV (et g0 rfl)) ?_
        refine p_nil ?_
        refine hK3 _ _ ?_
        refine fg1 4 g0 (fun g => ?_)
        refine c_ret ?_
        repeat with_reducible refine then_ret ?_
        refine ret1 rfl (res_tmp (et g0 rfl)) ?_
        exact ⟨rfl, _, _, _, by rw [withA_in hin9]; exact hX.slack hc1⟩
      · skip
        rw [hX.ex.wa] at q6
        have hin9 := of_decide_eq_false q6
        have hc9 := hc2 hin9
        refine p_gstep (j := 6) (t := 11) (by exact rfl) (by exact rfl) (by exact rfl) (et g0 rfl) rfl (y_moveV (et (gS rfl (gS rfl (gS rfl (gS rfl (gS rfl (gS rfl (gS rfl (gS rfl (gS rfl g0))))))))) rfl)) ?_
        refine p_gstep (j := 6) (t := 11) (by exact rfl) (by exact rfl) (by exact rfl) (et (gS rfl g0) rfl) rfl (y_nil (et g0 rfl)) ?_
        refine p_gstep (j := 6) (t := 11) (by exact rfl) (by exact rfl) (by exact rfl) (et (gS rfl (gS rfl g0)) rfl) rfl (y_fld fld_75_0 (et g0 rfl)) ?_
        refine p_gstep (j := 6) (t := 11) (by exact rfl) (by exact rfl) (by exact rfl) (et (gS rfl (gS rfl (gS rfl g0))) rfl) rfl (y_load1 one_59 (et g0 rfl) (atXP)) ?_
        refine p_gstep (j := 6) (t := 11) (by exact rfl) (by exact rfl) (by exact rfl) (et (gS rfl (gS rfl (gS rfl (gS rfl g0)))) rfl) rfl (y_loadB agg_25 sz_25 (et (gS rfl (gS rfl (gS rfl (gS rfl (gS rfl (gS rfl (gS rfl (gS rfl (gS rfl (gS rfl (gS rfl (gS rfl g0)))))))))))) rfl) (by rw [List.size_toArray, length_bL, length_be]) (atXB k2_s (by omega))) ?_
        refine p_geff (j := 6) (t := 11) (by exact rfl) (by exact rfl) (by exact rfl) (et (gS rfl (gS rfl (gS rfl (gS rfl (gS rfl g0))))) rfl) rfl (e_callV cal_173 (aC (et (gS rfl g0) rfl) (aC (et g0 rfl) aN)) (v_warmAcct hX.ex.vl hX.ex.ok a ha na9 hna9 hro.j)) (fun v7 w7 h7 => ?_)
        obtain ⟨rfl, cl7, cs7, V7, t7, ok7, js7⟩ := h7
        replace k2 := k2.ch t7.go.ch (by intro hm; (have e0 := hm); omega)
        replace hX := hX.vt0 t7 ok7 js7 (ay_warmA s.now a) (fun _ => rfl) (c' := c') (by omega)
        replace U := U.cc t7.go.ch (by intro b hb; exact .inl trivial)
        have cq9 := SU.ch.size
        replace SU := SU.xc t7.go.ch (hX.ex.vl.c1 hX.ex.lx.pS rfl) (by intro b hlt hb; have h9 := cq b hlt; have e0 := hb; first | omega | (dsimp only at e0; omega))
        replace cq := cq_step cq t7.col cq9
        refine ⟨.inr SU, ?_⟩
        refine p_step (by exact rfl) (y_pickF (et (gS rfl (gS rfl (gS rfl (gS rfl (gS rfl (gS rfl g0)))))) rfl) (et g0 rfl)) ?_
        refine p_step (by exact rfl) (y_assignV (et g0 rfl)) ?_
        refine p_nil ?_
        refine hK3 _ _ ?_
        refine fg1 4 g0 (fun g => ?_)
        refine c_ret ?_
        repeat with_reducible refine then_ret ?_
        refine ret1 rfl (res_tmp (et g0 rfl)) ?_
        exact ⟨rfl, _, _, _, hX⟩))
end Go.Proofs.YgvaawGreat
