import Derived.Test.YgvaawGreatZ18
set_option maxRecDepth 100000
set_option maxHeartbeats 4000000
set_option linter.unusedSimpArgs false
set_option linter.unusedVariables false
namespace Go.Proofs.YgvaawGreat
open Go
theorem JS.rfl' (V : EV) : JS V V (fun A => A) 0 0 0 0 0 := ⟨fun h => h, fun _ h => h, fun _ _ h => h, rfl, Nat.le_refl _, Nat.le_refl _, Nat.le_refl _, Nat.le_refl _, Nat.le_refl _⟩
/-- several calls of the vault, to be counted together -/
structure XD (w0 : World) (H0 : Store) (col0 : Nat → Nat) (w : World) (H : Store) (col : Nat → Nat) (bc : Nat) (cs : Array Value) (V : EV) (s : YSt) (sn : List Nat) (sv : List AW) (ms : List (List Nat)) (c : Nat) (A : AW) (na ns nt nj nl : Nat) : Prop where
  out : ∃ w1 H1 col1 cs1 V1 F, XT w0 H0 col0 w1 H1 col1 bc cs1 V1 s sn sv ms c ∧ VT w1 H1 col1 bc cs1 w H col cs V ∧ VOk V ∧ JS V1 V F na ns nt nj nl ∧ F (absY s.now) = A
structure EL (w : World) (H : Store) (col : Nat → Nat) (bc : Nat) (cs : Array Value) (V : EV) (s : YSt) (sn : List Nat) : Prop where
  vl : VL w H col bc cs V
  ok : VOk V
  lx : LX H cs bc s sn
section
variable {w0 w w' : World} {H0 H H' : Store} {col0 col col' : Nat → Nat} {bc : Nat} {cs cs' : Array Value} {V V' : EV} {s : YSt} {sn : List Nat} {sv : List AW} {ms : List (List Nat)} {c c' : Nat} {A : AW} {na ns nt nj nl na' ns' nt' nj' nl' : Nat}
theorem XD.ex (h : XD w0 H0 col0 w H col bc cs V s sn sv ms c A na ns nt nj nl) : EL w H col bc cs V s sn := by
  obtain ⟨w1, H1, col1, cs1, V1, F, hX, t, ok, js, e⟩ := h.out
  exact ⟨t.vl, ok, (hX.ex.lx.mono t.go.le).out t.out (.inl (by decide))⟩
theorem XD.start (h : XT w0 H0 col0 w H col bc cs V s sn sv ms c) : XD w0 H0 col0 w H col bc cs V s sn sv ms c (absY s.now) 0 0 0 0 0 := ⟨w, H, col, cs, V, fun A => A, h, VT.refl h.ex.vl, h.ex.ok, JS.rfl' V, rfl⟩
theorem XD.step {G : AW → AW} (h : XD w0 H0 col0 w H col bc cs V s sn sv ms c A na ns nt nj nl) (t : VT w H col bc cs w' H' col' cs' V') (ok : VOk V') (js : JS V V' G na' ns' nt' nj' nl') : XD w0 H0 col0 w' H' col' bc cs' V' s sn sv ms c (G A) (na + na') (ns + ns') (nt + nt') (nj + nj') (nl + nl') := by
  obtain ⟨w1, H1, col1, cs1, V1, F, hX, t1, ok1, js1, e⟩ := h.out
  exact ⟨w1, H1, col1, cs1, V1, _, hX, t1.trans t, ok, js1.trans js, congrArg G e⟩
theorem XD.abs (h : XD w0 H0 col0 w H col bc cs V s sn sv ms c A na ns nt nj nl) : absV V = A := by
  obtain ⟨w1, H1, col1, cs1, V1, F, hX, t1, ok1, js1, e⟩ := h.out
  rw [← e]
  exact (js1.va hX.ex.px.va).abs
theorem XD.up (h : XD w0 H0 col0 w H col bc cs V s sn sv ms c A na ns nt nj nl) (u : Up w w') : XD w0 H0 col0 w' H col bc cs V s sn sv ms c A na ns nt nj nl := by
  obtain ⟨w1, H1, col1, cs1, V1, F, hX, t1, ok1, js1, e⟩ := h.out
  exact ⟨w1, H1, col1, cs1, V1, F, hX, t1.up u, ok1, js1, e⟩
theorem XD.to (h : XD w0 H0 col0 w H col bc cs V s sn sv ms c A na ns nt nj nl) {B : AW} (e : A = B) : XD w0 H0 col0 w H col bc cs V s sn sv ms c B na ns nt nj nl := e ▸ h
theorem XD.more (h : XD w0 H0 col0 w H col bc cs V s sn sv ms c A na ns nt nj nl) : XD w0 H0 col0 w H col bc cs V s sn sv ms c A na ns nt (nj + 1) nl := by
  obtain ⟨w1, H1, col1, cs1, V1, F, hX, t1, ok1, js, e⟩ := h.out
  exact ⟨w1, H1, col1, cs1, V1, F, hX, t1, ok1, ⟨js.va, js.ha, js.hs, js.mr, js.na, js.ns, js.nt, Nat.le_succ_of_le js.nj, js.nl⟩, e⟩
theorem XD.done {W : YWorld} (h : XD w0 H0 col0 w H col bc cs V s sn sv ms c A na ns nt nj nl) (hF : absY W = A) (hc : c' + 2600 * na ≤ c ∧ c' + 2100 * ns ≤ c ∧ c' + 100 * nt ≤ c ∧ c' + 25 * nj ≤ c ∧ c' + 375 * nl ≤ c) (hr : W.refund + 200 * c' ≤ s.now.refund + 200 * c) : XT w0 H0 col0 w H col bc cs V { s with now := W } sn sv ms c' := by
  have ha := h.abs
  obtain ⟨w1, H1, col1, cs1, V1, F, hX, t1, ok1, js, e⟩ := h.out
  have h1 : V.ref = W.refund := by
    have h2 := congrArg AW.refund ha
    rw [← hF] at h2
    exact h2
  have h3 : V1.ref = s.now.refund := congrArg AW.refund hX.ex.px.va.abs
  exact hX.vt t1 ok1 js (e.trans hF.symm) hc (by rw [h1, h3]; exact hr)
theorem XD.jr (h : XD w0 H0 col0 w H col bc cs V s sn sv ms c A na ns nt nj nl) (hj : nj ≤ 20000) : V.journal.length < 65536 := by
  obtain ⟨w1, H1, col1, cs1, V1, F, hX, t1, ok1, js, e⟩ := h.out
  have h1 := js.nj
  have h2 := hX.ex.px.pot.j
  omega
theorem XD.ref (h : XD w0 H0 col0 w H col bc cs V s sn sv ms c A na ns nt nj nl) : V.ref = A.refund := congrArg AW.refund h.abs
theorem XD.dn {m : Nat} (h : XD w0 H0 col0 w H col bc cs V s sn sv ms c A na ns nt nj nl) (t : VT w H col bc cs w' H' col' cs' V') (ok : VOk V') (js : JS V V' (fun A => { A with refund := V.ref - m }) 0 0 0 1 0) : XD w0 H0 col0 w' H' col' bc cs' V' s sn sv ms c { A with refund := A.refund - m } na ns nt (nj + 1) nl := by
  have h1 := h.step t ok js
  rw [h.ref] at h1
  exact h1
theorem XD.ut {m : Nat} (h : XD w0 H0 col0 w H col bc cs V s sn sv ms c A na ns nt nj nl) (t : VT w H col bc cs w' H' col' cs' V') (ok : VOk V') (js : JS V V' (fun A => { A with refund := V.ref + m }) 0 0 0 1 0) : XD w0 H0 col0 w' H' col' bc cs' V' s sn sv ms c { A with refund := A.refund + m } na ns nt (nj + 1) nl := by
  have h1 := h.step t ok js
  rw [h.ref] at h1
  exact h1
theorem XD.dn0 {m : Nat} (h : XD w0 H0 col0 w H col bc cs V s sn sv ms c A na ns nt nj nl) (hm : m = 0) : XD w0 H0 col0 w H col bc cs V s sn sv ms c { A with refund := A.refund - m } na ns nt (nj + 1) nl := by
  subst hm
  exact h.more
theorem XD.ut0 {m : Nat} (h : XD w0 H0 col0 w H col bc cs V s sn sv ms c A na ns nt nj nl) (hm : m = 0) : XD w0 H0 col0 w H col bc cs V s sn sv ms c { A with refund := A.refund + m } na ns nt (nj + 1) nl := by
  subst hm
  exact h.more
theorem sPlus_le (o v n : Nat) : sPlus o v n ≤ 19900 := by
  unfold sPlus
  split
  · omega
  · split
    · split <;> omega
    · unfold sP0
      by_cases h : n = o
      · rw [if_pos h]
        by_cases h0 : o = 0
        · rw [if_pos h0]
          split
          · rename_i h1; omega
          · omega
        · rw [if_neg h0]
          split <;> omega
      · rw [if_neg h]
        split <;> omega
theorem EX.hasSW {a k : Nat} (h : EX w H col bc cs V s sn sv ms c) (hk : (a, k) ∈ s.now.warmS) : hasS V a k := by
  have h1 := h.ws a k
  rw [decide_eq_true hk] at h1
  refine Classical.byContradiction fun hn => ?_
  have : (absV V).warmS a k = false := by
    show (sx V a k).warm = false
    by_cases hm : (ai V a, k) ∈ sKs V.slots
    · by_cases h2 : hasA V a
      · exact absurd ⟨h2, hm⟩ hn
      · rw [sx_noA h.ok.sa h2]; rfl
    · rw [sx_no hm]; rfl
  rw [this] at h1
  cases h1
end
theorem m_opSstore {w : World} {H : Store} {col : Nat → Nat} {bc : Nat} {cs : Array Value} {V : EV} {s : YSt} {sn : List Nat} {sv : List AW} {ms : List (List Nat)} {c : Nat} {low : List YF} {f : YF} (hE : EX w H col bc cs V s sn sv ms c) (hs : s.frames = low ++ [f]) (hp : s.phase = 1) (hq : opcN f = 85) (hpc9 : f.pc < 512) (htk9 : 2 ≤ f.stack.length) {c' c1 : Nat} (hap : s.applied ≤ 4) (hc1 : c1 ≤ c) (hc2 : (f.self, argN f.stack 0) ∉ s.now.warmS → c1 + 2100 ≤ c) (hcc : c' + 100 ≤ c1) (hok9 : (sMinus (triAt s.start f.self (argN f.stack 0)) (slotAt (acctAt s.now.accts f.self).slots (argN f.stack 0)) (argN f.stack 1)) ≤ s.now.refund) :
    Ret 198 [.pointer (some ⟨bc, 0, none⟩)] w (fun v w' => v = .tuple #[] ∧ ∃ col' cs' V', XT w H col w' H col' bc cs' V' { stoN s f (argN f.stack 0) (argN f.stack 1) with frames := low ++ [setF f 2 false 0 1] } sn sv ms c') := by
  obtain ⟨n9, hn9, hR⟩ := hE.topF hs
  have hB := hE.fbT hs
  have h6 := hE.six hs
  have htop := hE.cTop hs
  have hphs := hE.cPh hp
  have hbp := hB.pc
  have hbs := hB.stk
  have hbg := hB.gas
  have hbc9 := hB.code
  have hnw := hE.vl.new
  have hfz := hE.vl.fz
  have hcC := hE.vl.colC
  have hbc0 := hE.vl.kC.lt
  have hX := XT.refl hE
  have hro := hE.room hap
  obtain ⟨ns9, hns8, hns9⟩ := slR hro.s f.self (argN f.stack 0)
  have hx8 := hE.slLt f.self (argN f.stack 0)
  have hple := sPlus_le (triAt s.start f.self (argN f.stack 0)) (slotAt (acctAt s.now.accts f.self).slots (argN f.stack 0)) (argN f.stack 1)
  have hrb0 : V.ref = s.now.refund := congrArg AW.refund hE.px.va.abs
  have hrb1 := hE.px.pot.r
  refine enter (n := 118) Hvaa.func198 rfl rfl (Nat.le_of_ble_eq_true rfl) ?_
  have U : Ch (fun _ => True) w w := Ch.refl _ w
  refine c_seq (fun K1 hK1 => ?_)
  exact (by
    refine c_region ?_
    refine l_step (y_moveV (et g0 rfl)) ?_
    refine l_eff (e_callV cal_183 (aC (et g0 rfl) aN) (m_running hX.ex hs hp)) (fun v2 w2 h2 => ?_)
    obtain ⟨rfl, u2⟩ := h2
    replace hX := hX.up u2
    replace U := U.tr u2
    refine l_step (y_assignV (et g0 rfl)) ?_
    refine l_nil ?_
    refine hK1 _ _ ?_
    refine fg2 0 2 (gS rfl (gS rfl (gS rfl g0))) g0 (fun g => ?_)
    refine c_seq (fun K3 hK3 => ?_)
    refine c_seq (fun K4 hK4 => ?_)
    exact (by
      refine c_region ?_
      refine l_step (y_moveV (et g0 rfl)) ?_
      refine l_step (y_eqlNil Hvaa.underlying276 (et g0 rfl) rfl) ?_
      refine l_nil ?_
      refine hK4 _ _ ?_
      refine fg3 0 2 14 (gS rfl (gS rfl (gS rfl g0))) (gS rfl (gS rfl g0)) g0 (fun g => ?_)
      refine c_false (et g0 rfl) rfl ?_
      refine c_skip ?_
      refine hK3 _ _ ?_
      refine fg2 0 2 (gS rfl (gS rfl g0)) (gS rfl g0) (fun g => ?_)
      refine c_seq (fun K6 hK6 => ?_)
      exact (by
        refine c_region ?_
        refine l_step (y_moveV (et (gS rfl g0) rfl)) ?_
        refine l_step (y_moveV (et (gS rfl g0) rfl)) ?_
        refine l_eff (e_callV cal_264 (aC (et (gS rfl g0) rfl) (aC (et g0 rfl) (aC (v := .int .i64 ((0 : Nat) : Int)) rfl aN))) (m_arg hX.ex hs hp (by first | exact hpf | rfl) _ (by decide))) (fun v7 w7 h7 => ?_)
        obtain ⟨rfl, u7⟩ := h7
        replace hX := hX.up u7
        replace U := U.tr u7
        refine l_eff (e_alloc zr_65) (fun v8 w8 h8 => ?_)
        obtain ⟨b8, rfl, n8⟩ := h8
        have f8 : w.heap.size ≤ b8 := Nat.le_trans U.size n8.fresh
        replace hX := hX.up n8.up
        replace U := U.tr n8.up
        have k8 := n8.blk
        obtain ⟨zs8, hz8, k8⟩ : ∃ cs : Array Value, cs.size = 4 ∧ Blk w8 b8 cs := ⟨_, rfl, k8⟩
        have nc8 : col b8 = 0 := hnw _ f8
        refine l_effN (e_store sz_65 (et g0 rfl) (cellsV (et (gS rfl g0) rfl) rfl) rfl (by exact one_uL _) k8 (by (first | (rw [hz8]; exact Nat.le_refl _) | (rw [List.size_toArray, wL_len]; exact Nat.le_refl _)))) (fun v9 w9 h9 => ?_)
        obtain ⟨rfl, x9⟩ := h9
        replace hX := hX.ch x9.ch (by first | omega | (intro b hb; first | (subst hb; first | exact ⟨by omega, fun hh => by have := hfz.lt hh; omega, by omega⟩ | exact ⟨by omega, by assumption, by omega⟩) | (rcases hb with hb | hb <;> (subst hb; first | exact ⟨by omega, fun hh => by have := hfz.lt hh; omega, by omega⟩ | exact ⟨by omega, by assumption, by omega⟩))))
        replace k8 := x9.blk.full (by first | (rw [hz8]; rfl) | (rw [List.size_toArray, wL_len, wL_len]))
        replace U := U.st x9 (.inr f8)
        refine l_nil ?_
        refine hK6 _ _ ?_
        refine fg3 0 2 3 (gS rfl (gS rfl (gS rfl (gS rfl (gS rfl g0))))) (gS rfl (gS rfl (gS rfl (gS rfl g0)))) g0 (fun g => ?_)
        refine c_seq (fun K10 hK10 => ?_)
        exact (by
          have hnw1 := hX.ex.vl.new
          refine fgv3 0 2 3 (gS rfl (gS rfl g0)) (gS rfl g0) g0 (fun g z0 z2 z3 e0 e2 e3 => ?_)
          refine c_drawJ (fun s_ w_ => ∃ (g : Nat → Value) (b12 : Nat) (b13 : Nat), s_ = (upd (upd (upd (upd (upd (upd g 0 z0) 2 z2) 3 z3) 4 (.pointer (some ⟨b12, 0, none⟩))) 5 (.pointer (some ⟨b13, 0, none⟩))) 6 (.bool (decide ((f.self, (argN f.stack 0)) ∈ s.now.warmS)))) ∧ Ch (fun _ => False) w9 w_ ∧ w9.heap.size ≤ b12 ∧ Blk w_ b12 ((wL (slotAt (acctAt s.now.accts f.self).slots (argN f.stack 0))).toArray) ∧ w9.heap.size ≤ b13 ∧ Blk w_ b13 ((wL (triAt s.start f.self (argN f.stack 0))).toArray)) Up 19 (.pure 0 (.pure 1 (.pure 2 (.pure 3 (.pure 4 (.pure 5 (.pure 6 (.pure 7 (.pure 8 (.three 9 (.pure 10 (.pure 11 (.pure 12 (.pure 13 (.two 14 (.eff 15 (.eff 16 (.eff 17 (.pure 18 .fin)))) 15 (.eff 14 (.eff 16 (.eff 17 (.pure 18 .fin))))))))) 14 (.two 9 (.pure 10 (.pure 11 (.pure 12 (.pure 13 (.eff 15 (.eff 16 (.eff 17 (.pure 18 .fin)))))))) 15 (.eff 9 (.pure 10 (.pure 11 (.pure 12 (.pure 13 (.eff 16 (.eff 17 (.pure 18 .fin))))))))) 15 (.two 9 (.pure 10 (.pure 11 (.pure 12 (.pure 13 (.eff 14 (.eff 16 (.eff 17 (.pure 18 .fin)))))))) 14 (.eff 9 (.pure 10 (.pure 11 (.pure 12 (.pure 13 (.eff 16 (.eff 17 (.pure 18 .fin))))))))))))))))))) (by kernel_rfl) (fun w14 hu => ⟨Up.refl _, ?_⟩) ?_
          · skip
            subst e0 e2 e3
            replace k8 := k8.up hu
            replace hX := hX.up hu
            replace U := U.tr hu
            have SU := Up.refl w14
            have V11 : Ch (fun _ => False) w9 w14 := hu
            refine t_step (by exact rfl) (y_moveV (et (gS rfl (gS rfl g0)) rfl)) ?_
            refine t_step (by exact rfl) (y_nil (et g0 rfl)) ?_
            refine t_step (by exact rfl) (y_fld fld_75_0 (et g0 rfl)) ?_
            refine t_step (by exact rfl) (y_load1 one_59 (et g0 rfl) (atS (hX.ex.vl.c1 hX.ex.lx.pS rfl))) ?_
            refine t_step (by exact rfl) (y_moveV (et (gS rfl (gS rfl (gS rfl (gS rfl (gS rfl g0))))) rfl)) ?_
            refine t_step (by exact rfl) (y_nil (et g0 rfl)) ?_
            refine t_step (by exact rfl) (y_fld fld_71_9 (et g0 rfl)) ?_
            refine t_step (by exact rfl) (y_loadR agg_25 sz_25 (et g0 rfl) (by rw [length_bL, length_be]) (atSR (hX.ex.vl.kC.rowO hR.r2 (by omega)))) ?_
            refine t_step (by exact rfl) (y_loadB agg_65 sz_65 (et (gS rfl (gS rfl (gS rfl (gS rfl (gS rfl (gS rfl (gS rfl (gS rfl g0)))))))) rfl) rfl (atSB k8)) ?_
            refine t_three ?_ ?_ ?_
            · skip
              refine t_eff (by exact rfl) (e_callV cal_304 (aC (et (gS rfl (gS rfl (gS rfl (gS rfl (gS rfl g0))))) rfl) (aC (et (gS rfl g0) rfl) (aC (et g0 rfl) aN))) (hX.ex.peekC f.self (argN f.stack 0) hB.self (argN_lt hB _))) (fun v15 w15 h15 => ?_)
              obtain ⟨rfl, u15⟩ := h15
              replace k8 := k8.up u15
              replace hX := hX.up u15
              replace U := U.tr u15
              replace V11 := V11.tr u15
              refine ⟨.inr (SU.tr u15), ?_⟩
              replace SU := SU.tr u15
              refine t_step (by exact rfl) (y_moveV (et g0 rfl)) ?_
              refine t_step (by exact rfl) (y_ext (et g0 rfl) rfl) ?_
              refine t_step (by exact rfl) (y_ext (et (gS rfl g0) rfl) rfl) ?_
              refine t_step (by exact rfl) (y_ext (et (gS rfl (gS rfl g0)) rfl) rfl) ?_
              refine t_two ?_ ?_
              · skip
                refine t_eff (by exact rfl) (e_alloc zr_65) (fun v16 w16 h16 => ?_)
                obtain ⟨b16, rfl, n16⟩ := h16
                have d8_16 : b8 < b16 := Nat.lt_of_lt_of_le k8.lt n16.fresh
                have f16 : w.heap.size ≤ b16 := Nat.le_trans U.size n16.fresh
                have fS16 := Nat.le_trans SU.size n16.fresh
                have fV11_16 := Nat.le_trans V11.size n16.fresh
                replace k8 := k8.up n16.up
                replace hX := hX.up n16.up
                replace U := U.tr n16.up
                replace V11 := V11.tr n16.up
                have k16 := n16.blk
                obtain ⟨zs16, hz16, k16⟩ : ∃ cs : Array Value, cs.size = 4 ∧ Blk w16 b16 cs := ⟨_, rfl, k16⟩
                refine ⟨.inr (SU.tr n16.up), ?_⟩
                replace SU := SU.tr n16.up
                have nc16 := hnw1 b16 (Nat.le_trans hu.size fS16)
                refine t_one ?_
                refine t_eff (by exact rfl) (e_alloc zr_65) (fun v17 w17 h17 => ?_)
                obtain ⟨b17, rfl, n17⟩ := h17
                have d8_17 : b8 < b17 := Nat.lt_of_lt_of_le k8.lt n17.fresh
                have d16_17 : b16 < b17 := Nat.lt_of_lt_of_le k16.lt n17.fresh
                have f17 : w.heap.size ≤ b17 := Nat.le_trans U.size n17.fresh
                have fS17 := Nat.le_trans SU.size n17.fresh
                have fV11_17 := Nat.le_trans V11.size n17.fresh
                replace k8 := k8.up n17.up
                replace k16 := k16.up n17.up
                replace hX := hX.up n17.up
                replace U := U.tr n17.up
                replace V11 := V11.tr n17.up
                have k17 := n17.blk
                obtain ⟨zs17, hz17, k17⟩ : ∃ cs : Array Value, cs.size = 4 ∧ Blk w17 b17 cs := ⟨_, rfl, k17⟩
                refine ⟨.inr (SU.tr n17.up), ?_⟩
                replace SU := SU.tr n17.up
                have nc17 := hnw1 b17 (Nat.le_trans hu.size fS17)
                refine t_one ?_
                refine t_effN (by exact rfl) (e_store sz_65 (et (gS rfl g0) rfl) (cellsV (et (gS rfl (gS rfl (gS rfl (gS rfl g0)))) rfl) rfl) rfl (by exact one_uL _) k16 (by (first | (rw [hz16]; exact Nat.le_refl _) | (rw [List.size_toArray, wL_len]; exact Nat.le_refl _)))) (fun v18 w18 h18 => ?_)
                obtain ⟨rfl, x18⟩ := h18
                replace k8 := k8.ch x18.ch (by omega)
                replace k17 := k17.ch x18.ch (by omega)
                replace hX := hX.ch x18.ch (by first | omega | (intro b hb; first | (subst hb; first | exact ⟨by omega, fun hh => by have := hfz.lt hh; omega, by omega⟩ | exact ⟨by omega, by assumption, by omega⟩) | (rcases hb with hb | hb <;> (subst hb; first | exact ⟨by omega, fun hh => by have := hfz.lt hh; omega, by omega⟩ | exact ⟨by omega, by assumption, by omega⟩))))
                replace k16 := x18.blk.full (by first | (rw [hz16]; rfl) | (rw [List.size_toArray, wL_len, wL_len]))
                replace U := U.st x18 (.inr f16)
                replace V11 := V11.st x18 (by omega)
                refine ⟨.inr (SU.st x18 (by omega)), ?_⟩
                replace SU := SU.st x18 (by omega)
                refine t_one ?_
                refine t_effN (by exact rfl) (e_store sz_65 (et g0 rfl) (cellsV (et (gS rfl (gS rfl (gS rfl g0))) rfl) rfl) rfl (by exact one_uL _) k17 (by (first | (rw [hz17]; exact Nat.le_refl _) | (rw [List.size_toArray, wL_len]; exact Nat.le_refl _)))) (fun v19 w19 h19 => ?_)
                obtain ⟨rfl, x19⟩ := h19
                replace k8 := k8.ch x19.ch (by omega)
                replace k16 := k16.ch x19.ch (by omega)
                replace hX := hX.ch x19.ch (by first | omega | (intro b hb; first | (subst hb; first | exact ⟨by omega, fun hh => by have := hfz.lt hh; omega, by omega⟩ | exact ⟨by omega, by assumption, by omega⟩) | (rcases hb with hb | hb <;> (subst hb; first | exact ⟨by omega, fun hh => by have := hfz.lt hh; omega, by omega⟩ | exact ⟨by omega, by assumption, by omega⟩))))
                replace k17 := x19.blk.full (by first | (rw [hz17]; rfl) | (rw [List.size_toArray, wL_len, wL_len]))
                replace U := U.st x19 (.inr f17)
                replace V11 := V11.st x19 (by omega)
                refine ⟨.inr (SU.st x19 (by omega)), ?_⟩
                replace SU := SU.st x19 (by omega)
                refine t_step (by exact rfl) (y_assignV (et (gS rfl (gS rfl g0)) rfl)) ?_
                refine tl6 0 2 3 4 5 6 (gS rfl (gS rfl (gS rfl (gS rfl (gS rfl (gS rfl (gS rfl (gS rfl (gS rfl (gS rfl (gS rfl (gS rfl (gS rfl (gS rfl (gS rfl (gS rfl (gS rfl (gS rfl (gS rfl g0))))))))))))))))))) (gS rfl (gS rfl (gS rfl (gS rfl (gS rfl (gS rfl (gS rfl (gS rfl (gS rfl (gS rfl (gS rfl (gS rfl (gS rfl (gS rfl (gS rfl (gS rfl (gS rfl (gS rfl g0)))))))))))))))))) (gS rfl (gS rfl (gS rfl (gS rfl (gS rfl (gS rfl (gS rfl (gS rfl (gS rfl (gS rfl (gS rfl (gS rfl (gS rfl (gS rfl (gS rfl (gS rfl (gS rfl g0))))))))))))))))) (gS rfl (gS rfl g0)) (gS rfl g0) g0 (fun g => ?_)
                exact ⟨g, _, _, rfl, V11, Nat.le_trans hu.size fS16, k16, Nat.le_trans hu.size fS17, k17⟩
              · skip
                refine t_eff (by exact rfl) (e_alloc zr_65) (fun v20 w20 h20 => ?_)
                obtain ⟨b20, rfl, n20⟩ := h20
                have d8_20 : b8 < b20 := Nat.lt_of_lt_of_le k8.lt n20.fresh
                have f20 : w.heap.size ≤ b20 := Nat.le_trans U.size n20.fresh
                have fS20 := Nat.le_trans SU.size n20.fresh
                have fV11_20 := Nat.le_trans V11.size n20.fresh
                replace k8 := k8.up n20.up
                replace hX := hX.up n20.up
                replace U := U.tr n20.up
                replace V11 := V11.tr n20.up
                have k20 := n20.blk
                obtain ⟨zs20, hz20, k20⟩ : ∃ cs : Array Value, cs.size = 4 ∧ Blk w20 b20 cs := ⟨_, rfl, k20⟩
                refine ⟨.inr (SU.tr n20.up), ?_⟩
                replace SU := SU.tr n20.up
                have nc20 := hnw1 b20 (Nat.le_trans hu.size fS20)
                refine t_one ?_
                refine t_eff (by exact rfl) (e_alloc zr_65) (fun v21 w21 h21 => ?_)
                obtain ⟨b21, rfl, n21⟩ := h21
                have d8_21 : b8 < b21 := Nat.lt_of_lt_of_le k8.lt n21.fresh
                have d20_21 : b20 < b21 := Nat.lt_of_lt_of_le k20.lt n21.fresh
                have f21 : w.heap.size ≤ b21 := Nat.le_trans U.size n21.fresh
                have fS21 := Nat.le_trans SU.size n21.fresh
                have fV11_21 := Nat.le_trans V11.size n21.fresh
                replace k8 := k8.up n21.up
                replace k20 := k20.up n21.up
                replace hX := hX.up n21.up
                replace U := U.tr n21.up
                replace V11 := V11.tr n21.up
                have k21 := n21.blk
                obtain ⟨zs21, hz21, k21⟩ : ∃ cs : Array Value, cs.size = 4 ∧ Blk w21 b21 cs := ⟨_, rfl, k21⟩
                refine ⟨.inr (SU.tr n21.up), ?_⟩
                replace SU := SU.tr n21.up
                have nc21 := hnw1 b21 (Nat.le_trans hu.size fS21)
                refine t_one ?_
                refine t_effN (by exact rfl) (e_store sz_65 (et g0 rfl) (cellsV (et (gS rfl (gS rfl (gS rfl (gS rfl g0)))) rfl) rfl) rfl (by exact one_uL _) k21 (by (first | (rw [hz21]; exact Nat.le_refl _) | (rw [List.size_toArray, wL_len]; exact Nat.le_refl _)))) (fun v22 w22 h22 => ?_)
                obtain ⟨rfl, x22⟩ := h22
                replace k8 := k8.ch x22.ch (by omega)
                replace k20 := k20.ch x22.ch (by omega)
                replace hX := hX.ch x22.ch (by first | omega | (intro b hb; first | (subst hb; first | exact ⟨by omega, fun hh => by have := hfz.lt hh; omega, by omega⟩ | exact ⟨by omega, by assumption, by omega⟩) | (rcases hb with hb | hb <;> (subst hb; first | exact ⟨by omega, fun hh => by have := hfz.lt hh; omega, by omega⟩ | exact ⟨by omega, by assumption, by omega⟩))))
                replace k21 := x22.blk.full (by first | (rw [hz21]; rfl) | (rw [List.size_toArray, wL_len, wL_len]))
                replace U := U.st x22 (.inr f21)
                replace V11 := V11.st x22 (by omega)
                refine ⟨.inr (SU.st x22 (by omega)), ?_⟩
                replace SU := SU.st x22 (by omega)
                refine t_one ?_
                refine t_effN (by exact rfl) (e_store sz_65 (et (gS rfl g0) rfl) (cellsV (et (gS rfl (gS rfl (gS rfl g0))) rfl) rfl) rfl (by exact one_uL _) k20 (by (first | (rw [hz20]; exact Nat.le_refl _) | (rw [List.size_toArray, wL_len]; exact Nat.le_refl _)))) (fun v23 w23 h23 => ?_)
                obtain ⟨rfl, x23⟩ := h23
                replace k8 := k8.ch x23.ch (by omega)
                replace k21 := k21.ch x23.ch (by omega)
                replace hX := hX.ch x23.ch (by first | omega | (intro b hb; first | (subst hb; first | exact ⟨by omega, fun hh => by have := hfz.lt hh; omega, by omega⟩ | exact ⟨by omega, by assumption, by omega⟩) | (rcases hb with hb | hb <;> (subst hb; first | exact ⟨by omega, fun hh => by have := hfz.lt hh; omega, by omega⟩ | exact ⟨by omega, by assumption, by omega⟩))))
                replace k20 := x23.blk.full (by first | (rw [hz20]; rfl) | (rw [List.size_toArray, wL_len, wL_len]))
                replace U := U.st x23 (.inr f20)
                replace V11 := V11.st x23 (by omega)
                refine ⟨.inr (SU.st x23 (by omega)), ?_⟩
                replace SU := SU.st x23 (by omega)
                refine t_step (by exact rfl) (y_assignV (et (gS rfl (gS rfl g0)) rfl)) ?_
                refine tl6 0 2 3 4 5 6 (gS rfl (gS rfl (gS rfl (gS rfl (gS rfl (gS rfl (gS rfl (gS rfl (gS rfl (gS rfl (gS rfl (gS rfl (gS rfl (gS rfl (gS rfl (gS rfl (gS rfl (gS rfl (gS rfl g0))))))))))))))))))) (gS rfl (gS rfl (gS rfl (gS rfl (gS rfl (gS rfl (gS rfl (gS rfl (gS rfl (gS rfl (gS rfl (gS rfl (gS rfl (gS rfl (gS rfl (gS rfl (gS rfl (gS rfl g0)))))))))))))))))) (gS rfl (gS rfl (gS rfl (gS rfl (gS rfl (gS rfl (gS rfl (gS rfl (gS rfl (gS rfl (gS rfl (gS rfl (gS rfl (gS rfl (gS rfl (gS rfl (gS rfl g0))))))))))))))))) (gS rfl g0) (gS rfl (gS rfl g0)) g0 (fun g => ?_)
                exact ⟨g, _, _, rfl, V11, Nat.le_trans hu.size fS21, k21, Nat.le_trans hu.size fS20, k20⟩
            · skip
              refine t_eff (by exact rfl) (e_alloc zr_65) (fun v24 w24 h24 => ?_)
              obtain ⟨b24, rfl, n24⟩ := h24
              have d8_24 : b8 < b24 := Nat.lt_of_lt_of_le k8.lt n24.fresh
              have f24 : w.heap.size ≤ b24 := Nat.le_trans U.size n24.fresh
              have fS24 := Nat.le_trans SU.size n24.fresh
              have fV11_24 := Nat.le_trans V11.size n24.fresh
              replace k8 := k8.up n24.up
              replace hX := hX.up n24.up
              replace U := U.tr n24.up
              replace V11 := V11.tr n24.up
              have k24 := n24.blk
              obtain ⟨zs24, hz24, k24⟩ : ∃ cs : Array Value, cs.size = 4 ∧ Blk w24 b24 cs := ⟨_, rfl, k24⟩
              refine ⟨.inr (SU.tr n24.up), ?_⟩
              replace SU := SU.tr n24.up
              have nc24 := hnw1 b24 (Nat.le_trans hu.size fS24)
              refine t_two ?_ ?_
              · skip
                refine t_eff (by exact rfl) (e_callV cal_304 (aC (et (gS rfl (gS rfl (gS rfl (gS rfl (gS rfl (gS rfl g0)))))) rfl) (aC (et (gS rfl (gS rfl g0)) rfl) (aC (et (gS rfl g0) rfl) aN))) (hX.ex.peekC f.self (argN f.stack 0) hB.self (argN_lt hB _))) (fun v25 w25 h25 => ?_)
                obtain ⟨rfl, u25⟩ := h25
                replace k8 := k8.up u25
                replace k24 := k24.up u25
                replace hX := hX.up u25
                replace U := U.tr u25
                replace V11 := V11.tr u25
                refine ⟨.inr (SU.tr u25), ?_⟩
                replace SU := SU.tr u25
                refine t_step (by exact rfl) (y_moveV (et g0 rfl)) ?_
                refine t_step (by exact rfl) (y_ext (et g0 rfl) rfl) ?_
                refine t_step (by exact rfl) (y_ext (et (gS rfl g0) rfl) rfl) ?_
                refine t_step (by exact rfl) (y_ext (et (gS rfl (gS rfl g0)) rfl) rfl) ?_
                refine t_one ?_
                refine t_eff (by exact rfl) (e_alloc zr_65) (fun v26 w26 h26 => ?_)
                obtain ⟨b26, rfl, n26⟩ := h26
                have d8_26 : b8 < b26 := Nat.lt_of_lt_of_le k8.lt n26.fresh
                have d24_26 : b24 < b26 := Nat.lt_of_lt_of_le k24.lt n26.fresh
                have f26 : w.heap.size ≤ b26 := Nat.le_trans U.size n26.fresh
                have fS26 := Nat.le_trans SU.size n26.fresh
                have fV11_26 := Nat.le_trans V11.size n26.fresh
                replace k8 := k8.up n26.up
                replace k24 := k24.up n26.up
                replace hX := hX.up n26.up
                replace U := U.tr n26.up
                replace V11 := V11.tr n26.up
                have k26 := n26.blk
                obtain ⟨zs26, hz26, k26⟩ : ∃ cs : Array Value, cs.size = 4 ∧ Blk w26 b26 cs := ⟨_, rfl, k26⟩
                refine ⟨.inr (SU.tr n26.up), ?_⟩
                replace SU := SU.tr n26.up
                have nc26 := hnw1 b26 (Nat.le_trans hu.size fS26)
                refine t_one ?_
                refine t_effN (by exact rfl) (e_store sz_65 (et (gS rfl (gS rfl (gS rfl (gS rfl (gS rfl (gS rfl g0)))))) rfl) (cellsV (et (gS rfl (gS rfl (gS rfl g0))) rfl) rfl) rfl (by exact one_uL _) k24 (by (first | (rw [hz24]; exact Nat.le_refl _) | (rw [List.size_toArray, wL_len]; exact Nat.le_refl _)))) (fun v27 w27 h27 => ?_)
                obtain ⟨rfl, x27⟩ := h27
                replace k8 := k8.ch x27.ch (by omega)
                replace k26 := k26.ch x27.ch (by omega)
                replace hX := hX.ch x27.ch (by first | omega | (intro b hb; first | (subst hb; first | exact ⟨by omega, fun hh => by have := hfz.lt hh; omega, by omega⟩ | exact ⟨by omega, by assumption, by omega⟩) | (rcases hb with hb | hb <;> (subst hb; first | exact ⟨by omega, fun hh => by have := hfz.lt hh; omega, by omega⟩ | exact ⟨by omega, by assumption, by omega⟩))))
                replace k24 := x27.blk.full (by first | (rw [hz24]; rfl) | (rw [List.size_toArray, wL_len, wL_len]))
                replace U := U.st x27 (.inr f24)
                replace V11 := V11.st x27 (by omega)
                refine ⟨.inr (SU.st x27 (by omega)), ?_⟩
                replace SU := SU.st x27 (by omega)
                refine t_one ?_
                refine t_effN (by exact rfl) (e_store sz_65 (et g0 rfl) (cellsV (et (gS rfl (gS rfl g0)) rfl) rfl) rfl (by exact one_uL _) k26 (by (first | (rw [hz26]; exact Nat.le_refl _) | (rw [List.size_toArray, wL_len]; exact Nat.le_refl _)))) (fun v28 w28 h28 => ?_)
                obtain ⟨rfl, x28⟩ := h28
                replace k8 := k8.ch x28.ch (by omega)
                replace k24 := k24.ch x28.ch (by omega)
                replace hX := hX.ch x28.ch (by first | omega | (intro b hb; first | (subst hb; first | exact ⟨by omega, fun hh => by have := hfz.lt hh; omega, by omega⟩ | exact ⟨by omega, by assumption, by omega⟩) | (rcases hb with hb | hb <;> (subst hb; first | exact ⟨by omega, fun hh => by have := hfz.lt hh; omega, by omega⟩ | exact ⟨by omega, by assumption, by omega⟩))))
                replace k26 := x28.blk.full (by first | (rw [hz26]; rfl) | (rw [List.size_toArray, wL_len, wL_len]))
                replace U := U.st x28 (.inr f26)
                replace V11 := V11.st x28 (by omega)
                refine ⟨.inr (SU.st x28 (by omega)), ?_⟩
                replace SU := SU.st x28 (by omega)
                refine t_step (by exact rfl) (y_assignV (et (gS rfl g0) rfl)) ?_
                refine tl6 0 2 3 4 5 6 (gS rfl (gS rfl (gS rfl (gS rfl (gS rfl (gS rfl (gS rfl (gS rfl (gS rfl (gS rfl (gS rfl (gS rfl (gS rfl (gS rfl (gS rfl (gS rfl (gS rfl (gS rfl (gS rfl g0))))))))))))))))))) (gS rfl (gS rfl (gS rfl (gS rfl (gS rfl (gS rfl (gS rfl (gS rfl (gS rfl (gS rfl (gS rfl (gS rfl (gS rfl (gS rfl (gS rfl (gS rfl (gS rfl (gS rfl g0)))))))))))))))))) (gS rfl (gS rfl (gS rfl (gS rfl (gS rfl (gS rfl (gS rfl (gS rfl (gS rfl (gS rfl (gS rfl (gS rfl (gS rfl (gS rfl (gS rfl (gS rfl (gS rfl g0))))))))))))))))) (gS rfl (gS rfl (gS rfl (gS rfl (gS rfl (gS rfl (gS rfl g0))))))) (gS rfl g0) g0 (fun g => ?_)
                exact ⟨g, _, _, rfl, V11, Nat.le_trans hu.size fS24, k24, Nat.le_trans hu.size fS26, k26⟩
              · skip
                refine t_eff (by exact rfl) (e_alloc zr_65) (fun v29 w29 h29 => ?_)
                obtain ⟨b29, rfl, n29⟩ := h29
                have d8_29 : b8 < b29 := Nat.lt_of_lt_of_le k8.lt n29.fresh
                have d24_29 : b24 < b29 := Nat.lt_of_lt_of_le k24.lt n29.fresh
                have f29 : w.heap.size ≤ b29 := Nat.le_trans U.size n29.fresh
                have fS29 := Nat.le_trans SU.size n29.fresh
                have fV11_29 := Nat.le_trans V11.size n29.fresh
                replace k8 := k8.up n29.up
                replace k24 := k24.up n29.up
                replace hX := hX.up n29.up
                replace U := U.tr n29.up
                replace V11 := V11.tr n29.up
                have k29 := n29.blk
                obtain ⟨zs29, hz29, k29⟩ : ∃ cs : Array Value, cs.size = 4 ∧ Blk w29 b29 cs := ⟨_, rfl, k29⟩
                refine ⟨.inr (SU.tr n29.up), ?_⟩
                replace SU := SU.tr n29.up
                have nc29 := hnw1 b29 (Nat.le_trans hu.size fS29)
                refine t_one ?_
                refine t_eff (by exact rfl) (e_callV cal_304 (aC (et (gS rfl (gS rfl (gS rfl (gS rfl (gS rfl (gS rfl (gS rfl g0))))))) rfl) (aC (et (gS rfl (gS rfl (gS rfl g0))) rfl) (aC (et (gS rfl (gS rfl g0)) rfl) aN))) (hX.ex.peekC f.self (argN f.stack 0) hB.self (argN_lt hB _))) (fun v30 w30 h30 => ?_)
                obtain ⟨rfl, u30⟩ := h30
                replace k8 := k8.up u30
                replace k24 := k24.up u30
                replace k29 := k29.up u30
                replace hX := hX.up u30
                replace U := U.tr u30
                replace V11 := V11.tr u30
                refine ⟨.inr (SU.tr u30), ?_⟩
                replace SU := SU.tr u30
                refine t_step (by exact rfl) (y_moveV (et g0 rfl)) ?_
                refine t_step (by exact rfl) (y_ext (et g0 rfl) rfl) ?_
                refine t_step (by exact rfl) (y_ext (et (gS rfl g0) rfl) rfl) ?_
                refine t_step (by exact rfl) (y_ext (et (gS rfl (gS rfl g0)) rfl) rfl) ?_
                refine t_one ?_
                refine t_effN (by exact rfl) (e_store sz_65 (et (gS rfl (gS rfl (gS rfl (gS rfl (gS rfl (gS rfl g0)))))) rfl) (cellsV (et (gS rfl (gS rfl g0)) rfl) rfl) rfl (by exact one_uL _) k24 (by (first | (rw [hz24]; exact Nat.le_refl _) | (rw [List.size_toArray, wL_len]; exact Nat.le_refl _)))) (fun v31 w31 h31 => ?_)
                obtain ⟨rfl, x31⟩ := h31
                replace k8 := k8.ch x31.ch (by omega)
                replace k29 := k29.ch x31.ch (by omega)
                replace hX := hX.ch x31.ch (by first | omega | (intro b hb; first | (subst hb; first | exact ⟨by omega, fun hh => by have := hfz.lt hh; omega, by omega⟩ | exact ⟨by omega, by assumption, by omega⟩) | (rcases hb with hb | hb <;> (subst hb; first | exact ⟨by omega, fun hh => by have := hfz.lt hh; omega, by omega⟩ | exact ⟨by omega, by assumption, by omega⟩))))
                replace k24 := x31.blk.full (by first | (rw [hz24]; rfl) | (rw [List.size_toArray, wL_len, wL_len]))
                replace U := U.st x31 (.inr f24)
                replace V11 := V11.st x31 (by omega)
                refine ⟨.inr (SU.st x31 (by omega)), ?_⟩
                replace SU := SU.st x31 (by omega)
                refine t_one ?_
                refine t_effN (by exact rfl) (e_store sz_65 (et (gS rfl (gS rfl (gS rfl (gS rfl (gS rfl g0))))) rfl) (cellsV (et (gS rfl g0) rfl) rfl) rfl (by exact one_uL _) k29 (by (first | (rw [hz29]; exact Nat.le_refl _) | (rw [List.size_toArray, wL_len]; exact Nat.le_refl _)))) (fun v32 w32 h32 => ?_)
                obtain ⟨rfl, x32⟩ := h32
                replace k8 := k8.ch x32.ch (by omega)
                replace k24 := k24.ch x32.ch (by omega)
                replace hX := hX.ch x32.ch (by first | omega | (intro b hb; first | (subst hb; first | exact ⟨by omega, fun hh => by have := hfz.lt hh; omega, by omega⟩ | exact ⟨by omega, by assumption, by omega⟩) | (rcases hb with hb | hb <;> (subst hb; first | exact ⟨by omega, fun hh => by have := hfz.lt hh; omega, by omega⟩ | exact ⟨by omega, by assumption, by omega⟩))))
                replace k29 := x32.blk.full (by first | (rw [hz29]; rfl) | (rw [List.size_toArray, wL_len, wL_len]))
                replace U := U.st x32 (.inr f29)
                replace V11 := V11.st x32 (by omega)
                refine ⟨.inr (SU.st x32 (by omega)), ?_⟩
                replace SU := SU.st x32 (by omega)
                refine t_step (by exact rfl) (y_assignV (et g0 rfl)) ?_
                refine tl6 0 2 3 4 5 6 (gS rfl (gS rfl (gS rfl (gS rfl (gS rfl (gS rfl (gS rfl (gS rfl (gS rfl (gS rfl (gS rfl (gS rfl (gS rfl (gS rfl (gS rfl (gS rfl (gS rfl (gS rfl (gS rfl g0))))))))))))))))))) (gS rfl (gS rfl (gS rfl (gS rfl (gS rfl (gS rfl (gS rfl (gS rfl (gS rfl (gS rfl (gS rfl (gS rfl (gS rfl (gS rfl (gS rfl (gS rfl (gS rfl (gS rfl g0)))))))))))))))))) (gS rfl (gS rfl (gS rfl (gS rfl (gS rfl (gS rfl (gS rfl (gS rfl (gS rfl (gS rfl (gS rfl (gS rfl (gS rfl (gS rfl (gS rfl (gS rfl (gS rfl g0))))))))))))))))) (gS rfl (gS rfl (gS rfl (gS rfl (gS rfl (gS rfl (gS rfl g0))))))) (gS rfl (gS rfl (gS rfl (gS rfl (gS rfl (gS rfl g0)))))) g0 (fun g => ?_)
                exact ⟨g, _, _, rfl, V11, Nat.le_trans hu.size fS24, k24, Nat.le_trans hu.size fS29, k29⟩
            · skip
              refine t_eff (by exact rfl) (e_alloc zr_65) (fun v33 w33 h33 => ?_)
              obtain ⟨b33, rfl, n33⟩ := h33
              have d8_33 : b8 < b33 := Nat.lt_of_lt_of_le k8.lt n33.fresh
              have f33 : w.heap.size ≤ b33 := Nat.le_trans U.size n33.fresh
              have fS33 := Nat.le_trans SU.size n33.fresh
              have fV11_33 := Nat.le_trans V11.size n33.fresh
              replace k8 := k8.up n33.up
              replace hX := hX.up n33.up
              replace U := U.tr n33.up
              replace V11 := V11.tr n33.up
              have k33 := n33.blk
              obtain ⟨zs33, hz33, k33⟩ : ∃ cs : Array Value, cs.size = 4 ∧ Blk w33 b33 cs := ⟨_, rfl, k33⟩
              refine ⟨.inr (SU.tr n33.up), ?_⟩
              replace SU := SU.tr n33.up
              have nc33 := hnw1 b33 (Nat.le_trans hu.size fS33)
              refine t_two ?_ ?_
              · skip
                refine t_eff (by exact rfl) (e_callV cal_304 (aC (et (gS rfl (gS rfl (gS rfl (gS rfl (gS rfl (gS rfl g0)))))) rfl) (aC (et (gS rfl (gS rfl g0)) rfl) (aC (et (gS rfl g0) rfl) aN))) (hX.ex.peekC f.self (argN f.stack 0) hB.self (argN_lt hB _))) (fun v34 w34 h34 => ?_)
                obtain ⟨rfl, u34⟩ := h34
                replace k8 := k8.up u34
                replace k33 := k33.up u34
                replace hX := hX.up u34
                replace U := U.tr u34
                replace V11 := V11.tr u34
                refine ⟨.inr (SU.tr u34), ?_⟩
                replace SU := SU.tr u34
                refine t_step (by exact rfl) (y_moveV (et g0 rfl)) ?_
                refine t_step (by exact rfl) (y_ext (et g0 rfl) rfl) ?_
                refine t_step (by exact rfl) (y_ext (et (gS rfl g0) rfl) rfl) ?_
                refine t_step (by exact rfl) (y_ext (et (gS rfl (gS rfl g0)) rfl) rfl) ?_
                refine t_one ?_
                refine t_eff (by exact rfl) (e_alloc zr_65) (fun v35 w35 h35 => ?_)
                obtain ⟨b35, rfl, n35⟩ := h35
                have d8_35 : b8 < b35 := Nat.lt_of_lt_of_le k8.lt n35.fresh
                have d33_35 : b33 < b35 := Nat.lt_of_lt_of_le k33.lt n35.fresh
                have f35 : w.heap.size ≤ b35 := Nat.le_trans U.size n35.fresh
                have fS35 := Nat.le_trans SU.size n35.fresh
                have fV11_35 := Nat.le_trans V11.size n35.fresh
                replace k8 := k8.up n35.up
                replace k33 := k33.up n35.up
                replace hX := hX.up n35.up
                replace U := U.tr n35.up
                replace V11 := V11.tr n35.up
                have k35 := n35.blk
                obtain ⟨zs35, hz35, k35⟩ : ∃ cs : Array Value, cs.size = 4 ∧ Blk w35 b35 cs := ⟨_, rfl, k35⟩
                refine ⟨.inr (SU.tr n35.up), ?_⟩
                replace SU := SU.tr n35.up
                have nc35 := hnw1 b35 (Nat.le_trans hu.size fS35)
                refine t_one ?_
                refine t_effN (by exact rfl) (e_store sz_65 (et g0 rfl) (cellsV (et (gS rfl (gS rfl (gS rfl g0))) rfl) rfl) rfl (by exact one_uL _) k35 (by (first | (rw [hz35]; exact Nat.le_refl _) | (rw [List.size_toArray, wL_len]; exact Nat.le_refl _)))) (fun v36 w36 h36 => ?_)
                obtain ⟨rfl, x36⟩ := h36
                replace k8 := k8.ch x36.ch (by omega)
                replace k33 := k33.ch x36.ch (by omega)
                replace hX := hX.ch x36.ch (by first | omega | (intro b hb; first | (subst hb; first | exact ⟨by omega, fun hh => by have := hfz.lt hh; omega, by omega⟩ | exact ⟨by omega, by assumption, by omega⟩) | (rcases hb with hb | hb <;> (subst hb; first | exact ⟨by omega, fun hh => by have := hfz.lt hh; omega, by omega⟩ | exact ⟨by omega, by assumption, by omega⟩))))
                replace k35 := x36.blk.full (by first | (rw [hz35]; rfl) | (rw [List.size_toArray, wL_len, wL_len]))
                replace U := U.st x36 (.inr f35)
                replace V11 := V11.st x36 (by omega)
                refine ⟨.inr (SU.st x36 (by omega)), ?_⟩
                replace SU := SU.st x36 (by omega)
                refine t_one ?_
                refine t_effN (by exact rfl) (e_store sz_65 (et (gS rfl (gS rfl (gS rfl (gS rfl (gS rfl (gS rfl g0)))))) rfl) (cellsV (et (gS rfl (gS rfl g0)) rfl) rfl) rfl (by exact one_uL _) k33 (by (first | (rw [hz33]; exact Nat.le_refl _) | (rw [List.size_toArray, wL_len]; exact Nat.le_refl _)))) (fun v37 w37 h37 => ?_)
                obtain ⟨rfl, x37⟩ := h37
                replace k8 := k8.ch x37.ch (by omega)
                replace k35 := k35.ch x37.ch (by omega)
                replace hX := hX.ch x37.ch (by first | omega | (intro b hb; first | (subst hb; first | exact ⟨by omega, fun hh => by have := hfz.lt hh; omega, by omega⟩ | exact ⟨by omega, by assumption, by omega⟩) | (rcases hb with hb | hb <;> (subst hb; first | exact ⟨by omega, fun hh => by have := hfz.lt hh; omega, by omega⟩ | exact ⟨by omega, by assumption, by omega⟩))))
                replace k33 := x37.blk.full (by first | (rw [hz33]; rfl) | (rw [List.size_toArray, wL_len, wL_len]))
                replace U := U.st x37 (.inr f33)
                replace V11 := V11.st x37 (by omega)
                refine ⟨.inr (SU.st x37 (by omega)), ?_⟩
                replace SU := SU.st x37 (by omega)
                refine t_step (by exact rfl) (y_assignV (et (gS rfl g0) rfl)) ?_
                refine tl6 0 2 3 4 5 6 (gS rfl (gS rfl (gS rfl (gS rfl (gS rfl (gS rfl (gS rfl (gS rfl (gS rfl (gS rfl (gS rfl (gS rfl (gS rfl (gS rfl (gS rfl (gS rfl (gS rfl (gS rfl (gS rfl g0))))))))))))))))))) (gS rfl (gS rfl (gS rfl (gS rfl (gS rfl (gS rfl (gS rfl (gS rfl (gS rfl (gS rfl (gS rfl (gS rfl (gS rfl (gS rfl (gS rfl (gS rfl (gS rfl (gS rfl g0)))))))))))))))))) (gS rfl (gS rfl (gS rfl (gS rfl (gS rfl (gS rfl (gS rfl (gS rfl (gS rfl (gS rfl (gS rfl (gS rfl (gS rfl (gS rfl (gS rfl (gS rfl (gS rfl g0))))))))))))))))) (gS rfl g0) (gS rfl (gS rfl (gS rfl (gS rfl (gS rfl (gS rfl (gS rfl g0))))))) g0 (fun g => ?_)
                exact ⟨g, _, _, rfl, V11, Nat.le_trans hu.size fS35, k35, Nat.le_trans hu.size fS33, k33⟩
              · skip
                refine t_eff (by exact rfl) (e_alloc zr_65) (fun v38 w38 h38 => ?_)
                obtain ⟨b38, rfl, n38⟩ := h38
                have d8_38 : b8 < b38 := Nat.lt_of_lt_of_le k8.lt n38.fresh
                have d33_38 : b33 < b38 := Nat.lt_of_lt_of_le k33.lt n38.fresh
                have f38 : w.heap.size ≤ b38 := Nat.le_trans U.size n38.fresh
                have fS38 := Nat.le_trans SU.size n38.fresh
                have fV11_38 := Nat.le_trans V11.size n38.fresh
                replace k8 := k8.up n38.up
                replace k33 := k33.up n38.up
                replace hX := hX.up n38.up
                replace U := U.tr n38.up
                replace V11 := V11.tr n38.up
                have k38 := n38.blk
                obtain ⟨zs38, hz38, k38⟩ : ∃ cs : Array Value, cs.size = 4 ∧ Blk w38 b38 cs := ⟨_, rfl, k38⟩
                refine ⟨.inr (SU.tr n38.up), ?_⟩
                replace SU := SU.tr n38.up
                have nc38 := hnw1 b38 (Nat.le_trans hu.size fS38)
                refine t_one ?_
                refine t_eff (by exact rfl) (e_callV cal_304 (aC (et (gS rfl (gS rfl (gS rfl (gS rfl (gS rfl (gS rfl (gS rfl g0))))))) rfl) (aC (et (gS rfl (gS rfl (gS rfl g0))) rfl) (aC (et (gS rfl (gS rfl g0)) rfl) aN))) (hX.ex.peekC f.self (argN f.stack 0) hB.self (argN_lt hB _))) (fun v39 w39 h39 => ?_)
                obtain ⟨rfl, u39⟩ := h39
                replace k8 := k8.up u39
                replace k33 := k33.up u39
                replace k38 := k38.up u39
                replace hX := hX.up u39
                replace U := U.tr u39
                replace V11 := V11.tr u39
                refine ⟨.inr (SU.tr u39), ?_⟩
                replace SU := SU.tr u39
                refine t_step (by exact rfl) (y_moveV (et g0 rfl)) ?_
                refine t_step (by exact rfl) (y_ext (et g0 rfl) rfl) ?_
                refine t_step (by exact rfl) (y_ext (et (gS rfl g0) rfl) rfl) ?_
                refine t_step (by exact rfl) (y_ext (et (gS rfl (gS rfl g0)) rfl) rfl) ?_
                refine t_one ?_
                refine t_effN (by exact rfl) (e_store sz_65 (et (gS rfl (gS rfl (gS rfl (gS rfl (gS rfl g0))))) rfl) (cellsV (et (gS rfl (gS rfl g0)) rfl) rfl) rfl (by exact one_uL _) k38 (by (first | (rw [hz38]; exact Nat.le_refl _) | (rw [List.size_toArray, wL_len]; exact Nat.le_refl _)))) (fun v40 w40 h40 => ?_)
                obtain ⟨rfl, x40⟩ := h40
                replace k8 := k8.ch x40.ch (by omega)
                replace k33 := k33.ch x40.ch (by omega)
                replace hX := hX.ch x40.ch (by first | omega | (intro b hb; first | (subst hb; first | exact ⟨by omega, fun hh => by have := hfz.lt hh; omega, by omega⟩ | exact ⟨by omega, by assumption, by omega⟩) | (rcases hb with hb | hb <;> (subst hb; first | exact ⟨by omega, fun hh => by have := hfz.lt hh; omega, by omega⟩ | exact ⟨by omega, by assumption, by omega⟩))))
                replace k38 := x40.blk.full (by first | (rw [hz38]; rfl) | (rw [List.size_toArray, wL_len, wL_len]))
                replace U := U.st x40 (.inr f38)
                replace V11 := V11.st x40 (by omega)
                refine ⟨.inr (SU.st x40 (by omega)), ?_⟩
                replace SU := SU.st x40 (by omega)
                refine t_one ?_
                refine t_effN (by exact rfl) (e_store sz_65 (et (gS rfl (gS rfl (gS rfl (gS rfl (gS rfl (gS rfl g0)))))) rfl) (cellsV (et (gS rfl g0) rfl) rfl) rfl (by exact one_uL _) k33 (by (first | (rw [hz33]; exact Nat.le_refl _) | (rw [List.size_toArray, wL_len]; exact Nat.le_refl _)))) (fun v41 w41 h41 => ?_)
                obtain ⟨rfl, x41⟩ := h41
                replace k8 := k8.ch x41.ch (by omega)
                replace k38 := k38.ch x41.ch (by omega)
                replace hX := hX.ch x41.ch (by first | omega | (intro b hb; first | (subst hb; first | exact ⟨by omega, fun hh => by have := hfz.lt hh; omega, by omega⟩ | exact ⟨by omega, by assumption, by omega⟩) | (rcases hb with hb | hb <;> (subst hb; first | exact ⟨by omega, fun hh => by have := hfz.lt hh; omega, by omega⟩ | exact ⟨by omega, by assumption, by omega⟩))))
                replace k33 := x41.blk.full (by first | (rw [hz33]; rfl) | (rw [List.size_toArray, wL_len, wL_len]))
                replace U := U.st x41 (.inr f33)
                replace V11 := V11.st x41 (by omega)
                refine ⟨.inr (SU.st x41 (by omega)), ?_⟩
                replace SU := SU.st x41 (by omega)
                refine t_step (by exact rfl) (y_assignV (et g0 rfl)) ?_
                refine tl6 0 2 3 4 5 6 (gS rfl (gS rfl (gS rfl (gS rfl (gS rfl (gS rfl (gS rfl (gS rfl (gS rfl (gS rfl (gS rfl (gS rfl (gS rfl (gS rfl (gS rfl (gS rfl (gS rfl (gS rfl (gS rfl g0))))))))))))))))))) (gS rfl (gS rfl (gS rfl (gS rfl (gS rfl (gS rfl (gS rfl (gS rfl (gS rfl (gS rfl (gS rfl (gS rfl (gS rfl (gS rfl (gS rfl (gS rfl (gS rfl (gS rfl g0)))))))))))))))))) (gS rfl (gS rfl (gS rfl (gS rfl (gS rfl (gS rfl (gS rfl (gS rfl (gS rfl (gS rfl (gS rfl (gS rfl (gS rfl (gS rfl (gS rfl (gS rfl (gS rfl g0))))))))))))))))) (gS rfl (gS rfl (gS rfl (gS rfl (gS rfl (gS rfl g0)))))) (gS rfl (gS rfl (gS rfl (gS rfl (gS rfl (gS rfl (gS rfl g0))))))) g0 (fun g => ?_)
                exact ⟨g, _, _, rfl, V11, Nat.le_trans hu.size fS38, k38, Nat.le_trans hu.size fS33, k33⟩
          intro s_ w42 hJ
          obtain ⟨g, b12, b13, rfl, V11, fn12, kn12, fn13, kn13⟩ := hJ
          subst e0 e2 e3
          have d8_12 : b8 < b12 := Nat.lt_of_lt_of_le k8.lt fn12
          have f12 : w.heap.size ≤ b12 := Nat.le_trans U.size fn12
          have d8_13 : b8 < b13 := Nat.lt_of_lt_of_le k8.lt fn13
          have f13 : w.heap.size ≤ b13 := Nat.le_trans U.size fn13
          replace k8 := k8.up V11
          replace hX := hX.up V11
          replace U := U.tr V11
          have k12 := kn12
          have k13 := kn13
          have nc12 := hnw1 b12 fn12
          have nc13 := hnw1 b13 fn13
          refine hK10 _ _ ?_
          refine c_seq (fun K43 hK43 => ?_)
          refine c_seq (fun K44 hK44 => ?_)
          exact (by
            refine c_draw (SXL _ bc _) 15 [(0, true), (1, true), (2, true), (3, true), (4, true), (5, true), (6, true), (7, true), (8, true), (9, true), (10, true), (11, true), (12, false), (13, true), (14, true)] (by kernel_rfl) (fun w45 hu => ⟨SXL.refl (hX.up hu), ?_⟩)
            replace k8 := k8.up hu
            replace k12 := k12.up hu
            replace k13 := k13.up hu
            replace hX := hX.up hu
            replace U := U.tr hu
            have SU := SXL.refl hX
            have cq := cq_refl hX
            have hX_s := hX
            have k8_s := k8
            have k12_s := k12
            have k13_s := k13
            refine p_step (by exact rfl) (y_moveV (et g0 rfl)) ?_
            refine p_step (by exact rfl) (y_not (et g0 rfl)) ?_
            refine p_step (by exact rfl) (y_moveV (et g0 rfl)) ?_
            refine gsplitP (i := 34) g0 (fun q46 => ?_) (fun q46 => ?_)
            · skip
              have hcw9 : (f.self, (argN f.stack 0)) ∉ s.now.warmS := by simpa using q46
              have hc9 := hc2 hcw9
              refine p_gstep (j := 2) (t := 34) (by exact rfl) (by exact rfl) (by exact rfl) (et g0 rfl) rfl (y_moveV (et (gS rfl (gS rfl (gS rfl (gS rfl (gS rfl (gS rfl (gS rfl (gS rfl (gS rfl g0))))))))) rfl)) ?_
              refine p_gstep (j := 2) (t := 34) (by exact rfl) (by exact rfl) (by exact rfl) (et (gS rfl g0) rfl) rfl (y_nil (et g0 rfl)) ?_
              refine p_gstep (j := 2) (t := 34) (by exact rfl) (by exact rfl) (by exact rfl) (et (gS rfl (gS rfl g0)) rfl) rfl (y_fld fld_75_0 (et g0 rfl)) ?_
              refine p_gstep (j := 2) (t := 34) (by exact rfl) (by exact rfl) (by exact rfl) (et (gS rfl (gS rfl (gS rfl g0))) rfl) rfl (y_load1 one_59 (et g0 rfl) (atXLP)) ?_
              refine p_gstep (j := 2) (t := 34) (by exact rfl) (by exact rfl) (by exact rfl) (et (gS rfl (gS rfl (gS rfl (gS rfl g0)))) rfl) rfl (y_moveV (et (gS rfl (gS rfl (gS rfl (gS rfl (gS rfl (gS rfl (gS rfl (gS rfl (gS rfl (gS rfl (gS rfl (gS rfl g0)))))))))))) rfl)) ?_
              refine p_gstep (j := 2) (t := 34) (by exact rfl) (by exact rfl) (by exact rfl) (et (gS rfl (gS rfl (gS rfl (gS rfl (gS rfl g0))))) rfl) rfl (y_nil (et g0 rfl)) ?_
              refine p_gstep (j := 2) (t := 34) (by exact rfl) (by exact rfl) (by exact rfl) (et (gS rfl (gS rfl (gS rfl (gS rfl (gS rfl (gS rfl g0)))))) rfl) rfl (y_fld fld_71_9 (et g0 rfl)) ?_
              refine p_gstep (j := 2) (t := 34) (by exact rfl) (by exact rfl) (by exact rfl) (et (gS rfl (gS rfl (gS rfl (gS rfl (gS rfl (gS rfl (gS rfl g0))))))) rfl) rfl (y_loadR agg_25 sz_25 (et g0 rfl) (by rw [length_bL, length_be]) (atXLR hR.r2 (by omega) (by rw [length_bL, length_be]; omega))) ?_
              refine p_gstep (j := 2) (t := 34) (by exact rfl) (by exact rfl) (by exact rfl) (et (gS rfl (gS rfl (gS rfl (gS rfl (gS rfl (gS rfl (gS rfl (gS rfl g0)))))))) rfl) rfl (y_loadB agg_65 sz_65 (et (gS rfl (gS rfl (gS rfl (gS rfl (gS rfl (gS rfl (gS rfl (gS rfl (gS rfl (gS rfl (gS rfl (gS rfl (gS rfl (gS rfl (gS rfl g0))))))))))))))) rfl) rfl (toL (atXB k8_s (by omega)))) ?_
              refine p_geff (j := 2) (t := 34) (by exact rfl) (by exact rfl) (by exact rfl) (et (gS rfl (gS rfl (gS rfl (gS rfl (gS rfl (gS rfl (gS rfl (gS rfl (gS rfl g0))))))))) rfl) rfl (e_callV cal_175 (aC (et (gS rfl (gS rfl (gS rfl (gS rfl (gS rfl g0))))) rfl) (aC (et (gS rfl g0) rfl) (aC (et g0 rfl) aN))) (v_warmSlot hX.ex.vl hX.ex.ok f.self (argN f.stack 0) hB.self (argN_lt hB _) 0 ns9 (.inl ⟨(hE.px.has f (by rw [hs]; simp)).1, rfl⟩) hns9 hro.j)) (fun v47 w47 h47 => ?_)
              obtain ⟨rfl, cl47, cs47, V47, t47, ok47, js47⟩ := h47
              have nc8 := (t47.col b8 k8.lt).trans nc8
              have nc12 := (t47.col b12 k12.lt).trans nc12
              have nc13 := (t47.col b13 k13.lt).trans nc13
              have kp47 := hX.ex.vl.kC
              replace k8 := k8.ch t47.go.ch (by intro hm; (have e0 := hm); omega)
              replace k12 := k12.ch t47.go.ch (by intro hm; (have e0 := hm); omega)
              replace k13 := k13.ch t47.go.ch (by intro hm; (have e0 := hm); omega)
              replace hX := hX.vt0 t47 ok47 js47 (ay_warmS s.now f.self (argN f.stack 0)) (fun _ => rfl) (c' := c1) (by omega)
              replace U := U.cc t47.go.ch (by intro b hb; exact .inl trivial)
              obtain ⟨s1, hs1⟩ : ∃ s1 : YSt, s1 = { s with now := { s.now with warmS := withM s.now.warmS f.self (argN f.stack 0) } } := ⟨_, rfl⟩
              rw [← hs1] at hX
              have hsf : s1.frames = low ++ [f] := by rw [hs1]; exact hs
              have hph1 : s1.phase = 1 := by rw [hs1]; exact hp
              have cq9 := SU.ch.size
              replace SU := SU.xc t47 kp47 (hX.ex.vl.c1 hX.ex.lx.pS rfl) (by intro b hlt hb; have h9 := cq b hlt; have e0 := hb; first | omega | (dsimp only at e0; omega))
              replace cq := cq_step cq t47.col cq9
              refine ⟨.inr SU, ?_⟩
              refine p_gstep (j := 2) (t := 34) (by exact rfl) (by exact rfl) (by exact rfl) (et (gS rfl (gS rfl (gS rfl (gS rfl (gS rfl (gS rfl (gS rfl (gS rfl (gS rfl (gS rfl g0)))))))))) rfl) rfl (y_not (et g0 rfl)) ?_
              exact (by
                refine p_step (by exact rfl) (y_pickT (et (gS rfl (gS rfl (gS rfl (gS rfl (gS rfl (gS rfl (gS rfl (gS rfl (gS rfl (gS rfl (gS rfl g0))))))))))) rfl) (et g0 rfl)) ?_
                refine p_nil ?_
                refine hK44 _ _ ?_
                refine fg7 0 2 3 4 5 6 46 (gS rfl (gS rfl (gS rfl (gS rfl (gS rfl (gS rfl (gS rfl (gS rfl (gS rfl (gS rfl (gS rfl (gS rfl (gS rfl (gS rfl (gS rfl (gS rfl (gS rfl (gS rfl (gS rfl (gS rfl (gS rfl g0))))))))))))))))))))) (gS rfl (gS rfl (gS rfl (gS rfl (gS rfl (gS rfl (gS rfl (gS rfl (gS rfl (gS rfl (gS rfl (gS rfl (gS rfl (gS rfl (gS rfl (gS rfl (gS rfl (gS rfl (gS rfl (gS rfl g0)))))))))))))))))))) (gS rfl (gS rfl (gS rfl (gS rfl (gS rfl (gS rfl (gS rfl (gS rfl (gS rfl (gS rfl (gS rfl (gS rfl (gS rfl (gS rfl (gS rfl (gS rfl (gS rfl (gS rfl (gS rfl g0))))))))))))))))))) (gS rfl (gS rfl (gS rfl (gS rfl (gS rfl (gS rfl (gS rfl (gS rfl (gS rfl (gS rfl (gS rfl (gS rfl (gS rfl (gS rfl (gS rfl (gS rfl (gS rfl (gS rfl g0)))))))))))))))))) (gS rfl (gS rfl (gS rfl (gS rfl (gS rfl (gS rfl (gS rfl (gS rfl (gS rfl (gS rfl (gS rfl (gS rfl (gS rfl (gS rfl (gS rfl (gS rfl (gS rfl g0))))))))))))))))) (gS rfl (gS rfl (gS rfl (gS rfl (gS rfl (gS rfl (gS rfl (gS rfl (gS rfl (gS rfl (gS rfl (gS rfl (gS rfl (gS rfl (gS rfl (gS rfl g0)))))))))))))))) g0 (fun g => ?_)
                refine c_false (et g0 rfl) (by rfl) ?_
                refine c_skip ?_
                refine hK43 _ _ ?_
                refine fg6 0 2 3 4 5 6 (gS rfl (gS rfl (gS rfl (gS rfl (gS rfl (gS rfl g0)))))) (gS rfl (gS rfl (gS rfl (gS rfl (gS rfl g0))))) (gS rfl (gS rfl (gS rfl (gS rfl g0)))) (gS rfl (gS rfl (gS rfl g0))) (gS rfl (gS rfl g0)) (gS rfl g0) (fun g => ?_)
                refine c_seq (fun K49 hK49 => ?_)
                refine c_seq (fun K50 hK50 => ?_)
                exact (by
                  refine c_region ?_
                  refine l_step (y_moveV (et (gS rfl (gS rfl (gS rfl (gS rfl (gS rfl g0))))) rfl)) ?_
                  refine l_eff (e_callV cal_108 (aC (et g0 rfl) aN) (m_opcode hX.ex hsf hph1)) (fun v51 w51 h51 => ?_)
                  obtain ⟨rfl, u51⟩ := h51
                  replace k8 := k8.up u51
                  replace k12 := k12.up u51
                  replace k13 := k13.up u51
                  replace hX := hX.up u51
                  replace U := U.tr u51
                  refine l_step (y_eql (et g0 rfl) rfl) ?_
                  refine l_nil ?_
                  refine hK50 _ _ ?_
                  refine fg7 0 2 3 4 5 6 51 (gS rfl (gS rfl (gS rfl (gS rfl (gS rfl (gS rfl (gS rfl (gS rfl g0)))))))) (gS rfl (gS rfl (gS rfl (gS rfl (gS rfl (gS rfl (gS rfl g0))))))) (gS rfl (gS rfl (gS rfl (gS rfl (gS rfl (gS rfl g0)))))) (gS rfl (gS rfl (gS rfl (gS rfl (gS rfl g0))))) (gS rfl (gS rfl (gS rfl (gS rfl g0)))) (gS rfl (gS rfl (gS rfl g0))) g0 (fun g => ?_)
                  refine c_false (et g0 rfl) (by (exact decide_eq_false (by omega))) ?_
                  refine c_skip ?_
                  refine hK49 _ _ ?_
                  refine fg6 0 2 3 4 5 6 (gS rfl (gS rfl (gS rfl (gS rfl (gS rfl (gS rfl g0)))))) (gS rfl (gS rfl (gS rfl (gS rfl (gS rfl g0))))) (gS rfl (gS rfl (gS rfl (gS rfl g0)))) (gS rfl (gS rfl (gS rfl g0))) (gS rfl (gS rfl g0)) (gS rfl g0) (fun g => ?_)
                  refine c_seq (fun K53 hK53 => ?_)
                  exact (by
                    refine c_region ?_
                    refine l_step (y_moveV (et (gS rfl (gS rfl (gS rfl (gS rfl (gS rfl g0))))) rfl)) ?_
                    refine l_step (y_moveV (et (gS rfl (gS rfl (gS rfl (gS rfl (gS rfl g0))))) rfl)) ?_
                    refine l_eff (e_callV cal_264 (aC (et (gS rfl g0) rfl) (aC (et g0 rfl) (aC (v := .int .i64 ((1 : Nat) : Int)) rfl aN))) (m_arg hX.ex hsf hph1 rfl 1 (by decide))) (fun v54 w54 h54 => ?_)
                    obtain ⟨rfl, u54⟩ := h54
                    replace k8 := k8.up u54
                    replace k12 := k12.up u54
                    replace k13 := k13.up u54
                    replace hX := hX.up u54
                    replace U := U.tr u54
                    have hnw4 := hX.ex.vl.new
                    refine l_eff (e_alloc zr_65) (fun v55 w55 h55 => ?_)
                    obtain ⟨b55, rfl, n55⟩ := h55
                    have d8_55 : b8 < b55 := Nat.lt_of_lt_of_le k8.lt n55.fresh
                    have d12_55 : b12 < b55 := Nat.lt_of_lt_of_le k12.lt n55.fresh
                    have d13_55 : b13 < b55 := Nat.lt_of_lt_of_le k13.lt n55.fresh
                    have f55 : w.heap.size ≤ b55 := Nat.le_trans U.size n55.fresh
                    replace k8 := k8.up n55.up
                    replace k12 := k12.up n55.up
                    replace k13 := k13.up n55.up
                    replace hX := hX.up n55.up
                    replace U := U.tr n55.up
                    have k55 := n55.blk
                    obtain ⟨zs55, hz55, k55⟩ : ∃ cs : Array Value, cs.size = 4 ∧ Blk w55 b55 cs := ⟨_, rfl, k55⟩
                    have nc55 := hnw4 b55 n55.fresh
                    refine l_effN (e_store sz_65 (et g0 rfl) (cellsV (et (gS rfl g0) rfl) rfl) rfl (by exact one_uL _) k55 (by (first | (rw [hz55]; exact Nat.le_refl _) | (rw [List.size_toArray, wL_len]; exact Nat.le_refl _)))) (fun v56 w56 h56 => ?_)
                    obtain ⟨rfl, x56⟩ := h56
                    replace k8 := k8.ch x56.ch (by omega)
                    replace k12 := k12.ch x56.ch (by omega)
                    replace k13 := k13.ch x56.ch (by omega)
                    replace hX := hX.ch x56.ch (by first | omega | (intro b hb; first | (subst hb; first | exact ⟨by omega, fun hh => by have := hfz.lt hh; omega, by omega⟩ | exact ⟨by omega, by assumption, by omega⟩) | (rcases hb with hb | hb <;> (subst hb; first | exact ⟨by omega, fun hh => by have := hfz.lt hh; omega, by omega⟩ | exact ⟨by omega, by assumption, by omega⟩))))
                    replace k55 := x56.blk.full (by first | (rw [hz55]; rfl) | (rw [List.size_toArray, wL_len, wL_len]))
                    replace U := U.st x56 (.inr f55)
                    refine l_nil ?_
                    refine hK53 _ _ ?_
                    refine fg7 0 2 3 4 5 6 7 (gS rfl (gS rfl (gS rfl (gS rfl (gS rfl (gS rfl (gS rfl (gS rfl (gS rfl g0))))))))) (gS rfl (gS rfl (gS rfl (gS rfl (gS rfl (gS rfl (gS rfl (gS rfl g0)))))))) (gS rfl (gS rfl (gS rfl (gS rfl (gS rfl (gS rfl (gS rfl g0))))))) (gS rfl (gS rfl (gS rfl (gS rfl (gS rfl (gS rfl g0)))))) (gS rfl (gS rfl (gS rfl (gS rfl (gS rfl g0))))) (gS rfl (gS rfl (gS rfl (gS rfl g0)))) g0 (fun g => ?_)
                    refine c_seq (fun K57 hK57 => ?_)
                    exact (by
                      refine c_region ?_
                      refine l_step (y_loadB agg_65 sz_65 (et (gS rfl (gS rfl g0)) rfl) rfl (at1B k13)) ?_
                      refine l_step (y_loadB agg_65 sz_65 (et (gS rfl (gS rfl (gS rfl (gS rfl g0)))) rfl) rfl (at1B k12)) ?_
                      refine l_step (y_loadB agg_65 sz_65 (et (gS rfl (gS rfl g0)) rfl) rfl (at1B k55)) ?_
                      refine l_step (y_moveV (et (gS rfl (gS rfl (gS rfl (gS rfl g0)))) rfl)) ?_
                      refine l_step (y_not (et g0 rfl)) ?_
                      refine l_eff (e_callV cal_305 (aC (et (gS rfl (gS rfl (gS rfl (gS rfl g0)))) rfl) (aC (et (gS rfl (gS rfl (gS rfl g0))) rfl) (aC (et (gS rfl (gS rfl g0)) rfl) (aC (et g0 rfl) aN)))) (mach_Sstore _ _ _ _ _ (hE.ogLt _ _) (hE.slLt _ _) (argN_lt hB _))) (fun v58 w58 h58 => ?_)
                      obtain ⟨rfl, u58⟩ := h58
                      replace k8 := k8.up u58
                      replace k12 := k12.up u58
                      replace k13 := k13.up u58
                      replace k55 := k55.up u58
                      replace hX := hX.up u58
                      replace U := U.tr u58
                      have hac : s1.now.accts = s.now.accts := by rw [hs1]
                      have hrf : s1.now.refund = s.now.refund := by rw [hs1]
                      have hap1 : s1.applied ≤ 4 := by rw [hs1]; exact hap
                      have hw9 : (f.self, (argN f.stack 0)) ∈ s1.now.warmS := by rw [hs1]; exact (mem_withM _ _ _ _).2 (.inl rfl)
                      have hro1 := hX.ex.room hap1
                      have hha1 := (hX.ex.px.has f (by rw [hsf]; simp)).1
                      have hhs1 := hX.ex.hasSW hw9
                      obtain ⟨n8, hn8, hR2⟩ := hX.ex.topF hsf
                      refine l_step (y_moveV (et g0 rfl)) ?_
                      refine l_step (y_ext (et g0 rfl) rfl) ?_
                      refine l_step (y_ext (et (gS rfl g0) rfl) rfl) ?_
                      refine l_step (y_ext (et (gS rfl (gS rfl g0)) rfl) rfl) ?_
                      refine l_step (y_assignV (et (gS rfl (gS rfl g0)) rfl)) ?_
                      refine l_step (y_assignV (et (gS rfl (gS rfl g0)) rfl)) ?_
                      refine l_step (y_assignV (et (gS rfl (gS rfl g0)) rfl)) ?_
                      refine l_nil ?_
                      refine hK57 _ _ ?_
                      refine fg7 0 2 3 4 7 9 10 (gS rfl (gS rfl (gS rfl (gS rfl (gS rfl (gS rfl (gS rfl (gS rfl (gS rfl (gS rfl (gS rfl (gS rfl (gS rfl (gS rfl (gS rfl (gS rfl (gS rfl (gS rfl (gS rfl g0))))))))))))))))))) (gS rfl (gS rfl (gS rfl (gS rfl (gS rfl (gS rfl (gS rfl (gS rfl (gS rfl (gS rfl (gS rfl (gS rfl (gS rfl (gS rfl (gS rfl (gS rfl (gS rfl (gS rfl g0)))))))))))))))))) (gS rfl (gS rfl (gS rfl (gS rfl (gS rfl (gS rfl (gS rfl (gS rfl (gS rfl (gS rfl (gS rfl (gS rfl (gS rfl (gS rfl (gS rfl (gS rfl (gS rfl g0))))))))))))))))) (gS rfl (gS rfl (gS rfl (gS rfl (gS rfl (gS rfl (gS rfl (gS rfl (gS rfl (gS rfl (gS rfl (gS rfl (gS rfl (gS rfl (gS rfl (gS rfl g0)))))))))))))))) (gS rfl (gS rfl (gS rfl (gS rfl (gS rfl (gS rfl (gS rfl (gS rfl (gS rfl (gS rfl (gS rfl (gS rfl (gS rfl g0))))))))))))) (gS rfl g0) g0 (fun g => ?_)
                      refine c_seq (fun K59 hK59 => ?_)
                      refine c_seq (fun K60 hK60 => ?_)
                      exact (by
                        refine c_draw (SXL _ bc _) 43 [(0, true), (1, true), (2, true), (3, true), (4, true), (5, true), (6, true), (7, true), (8, true), (9, true), (10, true), (11, true), (12, true), (13, true), (14, false), (15, true), (16, true), (17, true), (18, true), (19, true), (20, true), (21, true), (22, true), (23, true), (24, true), (25, true), (26, false), (27, true), (28, true), (29, true), (30, true), (31, true), (32, true), (33, true), (34, true), (35, true), (36, true), (37, true), (38, true), (39, false), (40, true), (41, true), (42, true)] (by kernel_rfl) (fun w61 hu => ⟨SXL.refl (hX.up hu), ?_⟩)
                        replace k8 := k8.up hu
                        replace k12 := k12.up hu
                        replace k13 := k13.up hu
                        replace k55 := k55.up hu
                        replace hX := hX.up hu
                        replace U := U.tr hu
                        have SU := SXL.refl hX
                        have cq := cq_refl hX
                        have hX_s := hX
                        have k8_s := k8
                        have k12_s := k12
                        have k13_s := k13
                        have k55_s := k55
                        refine p_step (by exact rfl) (y_loadB agg_65 sz_65 (et (gS rfl (gS rfl g0)) rfl) rfl (toL (atXB k55_s (by omega)))) ?_
                        refine p_step (by exact rfl) (y_loadB agg_65 sz_65 (et (gS rfl (gS rfl (gS rfl (gS rfl g0)))) rfl) rfl (toL (atXB k12_s (by omega)))) ?_
                        refine p_step (by exact rfl) (y_neqW (argN_lt hB _) (hE.slLt _ _) (et (gS rfl g0) rfl) (et g0 rfl)) ?_
                        refine p_step (by exact rfl) (y_moveV (et g0 rfl)) ?_
                        refine gsplitP (i := 72) g0 (fun q62 => ?_) (fun q62 => ?_)
                        · skip
                          skip
                          refine p_gstep (j := 3) (t := 72) (by exact rfl) (by exact rfl) (by exact rfl) (et g0 rfl) rfl (y_moveV (et (gS rfl (gS rfl (gS rfl (gS rfl (gS rfl (gS rfl (gS rfl (gS rfl (gS rfl (gS rfl (gS rfl g0))))))))))) rfl)) ?_
                          refine p_gstep (j := 3) (t := 72) (by exact rfl) (by exact rfl) (by exact rfl) (et (gS rfl g0) rfl) rfl (y_nil (et g0 rfl)) ?_
                          refine p_gstep (j := 3) (t := 72) (by exact rfl) (by exact rfl) (by exact rfl) (et (gS rfl (gS rfl g0)) rfl) rfl (y_fld fld_75_0 (et g0 rfl)) ?_
                          refine p_gstep (j := 3) (t := 72) (by exact rfl) (by exact rfl) (by exact rfl) (et (gS rfl (gS rfl (gS rfl g0))) rfl) rfl (y_load1 one_59 (et g0 rfl) (atXLP)) ?_
                          refine p_gstep (j := 3) (t := 72) (by exact rfl) (by exact rfl) (by exact rfl) (et (gS rfl (gS rfl (gS rfl (gS rfl g0)))) rfl) rfl (y_moveV (et (gS rfl (gS rfl (gS rfl (gS rfl (gS rfl (gS rfl (gS rfl (gS rfl (gS rfl (gS rfl (gS rfl (gS rfl (gS rfl (gS rfl g0)))))))))))))) rfl)) ?_
                          refine p_gstep (j := 3) (t := 72) (by exact rfl) (by exact rfl) (by exact rfl) (et (gS rfl (gS rfl (gS rfl (gS rfl (gS rfl g0))))) rfl) rfl (y_nil (et g0 rfl)) ?_
                          refine p_gstep (j := 3) (t := 72) (by exact rfl) (by exact rfl) (by exact rfl) (et (gS rfl (gS rfl (gS rfl (gS rfl (gS rfl (gS rfl g0)))))) rfl) rfl (y_fld fld_71_9 (et g0 rfl)) ?_
                          refine p_gstep (j := 3) (t := 72) (by exact rfl) (by exact rfl) (by exact rfl) (et (gS rfl (gS rfl (gS rfl (gS rfl (gS rfl (gS rfl (gS rfl g0))))))) rfl) rfl (y_loadR agg_25 sz_25 (et g0 rfl) (by rw [length_bL, length_be]) (atXLR hR2.r2 (by omega) (by rw [length_bL, length_be]; omega))) ?_
                          refine p_gstep (j := 3) (t := 72) (by exact rfl) (by exact rfl) (by exact rfl) (et (gS rfl (gS rfl (gS rfl (gS rfl (gS rfl (gS rfl (gS rfl (gS rfl g0)))))))) rfl) rfl (y_loadB agg_65 sz_65 (et (gS rfl (gS rfl (gS rfl (gS rfl (gS rfl (gS rfl (gS rfl (gS rfl (gS rfl (gS rfl (gS rfl (gS rfl (gS rfl (gS rfl (gS rfl (gS rfl (gS rfl g0))))))))))))))))) rfl) rfl (toL (atXB k8_s (by omega)))) ?_
                          refine p_gstep (j := 3) (t := 72) (by exact rfl) (by exact rfl) (by exact rfl) (et (gS rfl (gS rfl (gS rfl (gS rfl (gS rfl (gS rfl (gS rfl (gS rfl (gS rfl g0))))))))) rfl) rfl (y_loadB agg_65 sz_65 (et (gS rfl (gS rfl (gS rfl (gS rfl (gS rfl (gS rfl (gS rfl (gS rfl (gS rfl (gS rfl (gS rfl (gS rfl (gS rfl (gS rfl (gS rfl (gS rfl g0)))))))))))))))) rfl) rfl (toL (atXB k55_s (by omega)))) ?_
                          refine p_geff (j := 3) (t := 72) (by exact rfl) (by exact rfl) (by exact rfl) (et (gS rfl (gS rfl (gS rfl (gS rfl (gS rfl (gS rfl (gS rfl (gS rfl (gS rfl (gS rfl g0)))))))))) rfl) rfl (e_callV cal_306 (aC (et (gS rfl (gS rfl (gS rfl (gS rfl (gS rfl (gS rfl g0)))))) rfl) (aC (et (gS rfl (gS rfl g0)) rfl) (aC (et (gS rfl g0) rfl) (aC (et g0 rfl) aN)))) (v_store hX.ex.vl hX.ex.ok f.self (argN f.stack 0) hB.self (argN_lt hB _) (argN f.stack 1) (argN_lt hB _) 0 0 (.inl ⟨hha1, rfl⟩) (.inl ⟨hhs1, rfl⟩) hro1.j)) (fun v63 w63 h63 => ?_)
                          obtain ⟨rfl, cl63, cs63, V63, t63, ok63, js63⟩ := h63
                          have nc8 := (t63.col b8 k8.lt).trans nc8
                          have nc12 := (t63.col b12 k12.lt).trans nc12
                          have nc13 := (t63.col b13 k13.lt).trans nc13
                          have nc55 := (t63.col b55 k55.lt).trans nc55
                          have kp63 := hX.ex.vl.kC
                          replace k8 := k8.ch t63.go.ch (by intro hm; (have e0 := hm); omega)
                          replace k12 := k12.ch t63.go.ch (by intro hm; (have e0 := hm); omega)
                          replace k13 := k13.ch t63.go.ch (by intro hm; (have e0 := hm); omega)
                          replace k55 := k55.ch t63.go.ch (by intro hm; (have e0 := hm); omega)
                          replace hX := ((XD.start hX).step t63 ok63 js63)
                          replace U := U.cc t63.go.ch (by intro b hb; exact .inl trivial)
                          have cq9 := SU.ch.size
                          replace SU := SU.xc t63 kp63 (hX.ex.vl.c1 hX.ex.lx.pS rfl) (by intro b hlt hb; have h9 := cq b hlt; have e0 := hb; first | omega | (dsimp only at e0; omega))
                          replace cq := cq_step cq t63.col cq9
                          refine ⟨.inr SU, ?_⟩
                          refine p_gstep (j := 3) (t := 72) (by exact rfl) (by exact rfl) (by exact rfl) (et (gS rfl (gS rfl (gS rfl (gS rfl (gS rfl (gS rfl (gS rfl (gS rfl (gS rfl (gS rfl (gS rfl g0))))))))))) rfl) rfl (y_not (et g0 rfl)) ?_
                          refine p_step (by exact rfl) (y_pickT (et (gS rfl (gS rfl (gS rfl (gS rfl (gS rfl (gS rfl (gS rfl (gS rfl (gS rfl (gS rfl (gS rfl (gS rfl g0)))))))))))) rfl) (et g0 rfl)) ?_
                          refine p_step (by exact rfl) (y_moveV (et g0 rfl)) ?_
                          refine gsplitP (i := 86) g0 (fun q64 => ?_) (fun q64 => ?_)
                          · skip
                            cases q64
                          · skip
                            refine p_gstep (j := 17) (t := 86) (by exact rfl) (by exact rfl) (by exact rfl) (et g0 rfl) rfl (y_moveV (et (gS rfl (gS rfl (gS rfl (gS rfl (gS rfl (gS rfl (gS rfl (gS rfl (gS rfl (gS rfl (gS rfl (gS rfl (gS rfl (gS rfl (gS rfl (gS rfl (gS rfl (gS rfl (gS rfl (gS rfl g0)))))))))))))))))))) rfl)) ?_
                            refine p_gstep (j := 17) (t := 86) (by exact rfl) (by exact rfl) (by exact rfl) (et (gS rfl g0) rfl) rfl (y_gtr (et g0 rfl) rfl) ?_
                            refine p_gstep (j := 17) (t := 86) (by exact rfl) (by exact rfl) (by exact rfl) (et (gS rfl (gS rfl g0)) rfl) rfl (y_moveV (et g0 rfl)) ?_
                            refine gsplitP (i := 89) g0 (fun q65 => ?_) (fun q65 => ?_)
                            · skip
                              have hm9 : 0 < (sMinus (triAt s.start f.self (argN f.stack 0)) (slotAt (acctAt s.now.accts f.self).slots (argN f.stack 0)) (argN f.stack 1)) := by have := of_decide_eq_true q65; omega
                              refine p_gstep (j := 20) (t := 89) (by exact rfl) (by exact rfl) (by exact rfl) (et g0 rfl) rfl (y_moveV (et (gS rfl (gS rfl (gS rfl (gS rfl (gS rfl (gS rfl (gS rfl (gS rfl (gS rfl (gS rfl (gS rfl (gS rfl (gS rfl (gS rfl (gS rfl (gS rfl (gS rfl (gS rfl (gS rfl (gS rfl (gS rfl (gS rfl (gS rfl (gS rfl (gS rfl (gS rfl (gS rfl (gS rfl (gS rfl (gS rfl g0)))))))))))))))))))))))))))))) rfl)) ?_
                              refine p_gstep (j := 20) (t := 89) (by exact rfl) (by exact rfl) (by exact rfl) (et (gS rfl g0) rfl) rfl (y_nil (et g0 rfl)) ?_
                              refine p_gstep (j := 20) (t := 89) (by exact rfl) (by exact rfl) (by exact rfl) (et (gS rfl (gS rfl g0)) rfl) rfl (y_fld fld_75_0 (et g0 rfl)) ?_
                              refine p_gstep (j := 20) (t := 89) (by exact rfl) (by exact rfl) (by exact rfl) (et (gS rfl (gS rfl (gS rfl g0))) rfl) rfl (y_load1 one_59 (et g0 rfl) (atXLP)) ?_
                              refine p_gstep (j := 20) (t := 89) (by exact rfl) (by exact rfl) (by exact rfl) (et (gS rfl (gS rfl (gS rfl (gS rfl g0)))) rfl) rfl (y_moveV (et (gS rfl (gS rfl (gS rfl (gS rfl (gS rfl (gS rfl (gS rfl (gS rfl (gS rfl (gS rfl (gS rfl (gS rfl (gS rfl (gS rfl (gS rfl (gS rfl (gS rfl (gS rfl (gS rfl (gS rfl (gS rfl (gS rfl (gS rfl (gS rfl (gS rfl (gS rfl (gS rfl (gS rfl g0)))))))))))))))))))))))))))) rfl)) ?_
                              refine p_geff (j := 20) (t := 89) (by exact rfl) (by exact rfl) (by exact rfl) (et (gS rfl (gS rfl (gS rfl (gS rfl (gS rfl g0))))) rfl) rfl (e_callV cal_307 (aC (et (gS rfl g0) rfl) (aC (et g0 rfl) aN)) (v_refundDown hX.ex.vl hX.ex.ok (sMinus (triAt s.start f.self (argN f.stack 0)) (slotAt (acctAt s.now.accts f.self).slots (argN f.stack 0)) (argN f.stack 1)) (by rw [hX.ref]; show _ ≤ s1.now.refund; rw [hrf]; exact hok9) (hX.jr (by decide)))) (fun v66 w66 h66 => ?_)
                              obtain ⟨rfl, cl66, cs66, V66, t66, ok66, js66⟩ := h66
                              have nc8 := (t66.col b8 k8.lt).trans nc8
                              have nc12 := (t66.col b12 k12.lt).trans nc12
                              have nc13 := (t66.col b13 k13.lt).trans nc13
                              have nc55 := (t66.col b55 k55.lt).trans nc55
                              have kp66 := hX.ex.vl.kC
                              replace k8 := k8.ch t66.go.ch (by intro hm; (have e0 := hm); omega)
                              replace k12 := k12.ch t66.go.ch (by intro hm; (have e0 := hm); omega)
                              replace k13 := k13.ch t66.go.ch (by intro hm; (have e0 := hm); omega)
                              replace k55 := k55.ch t66.go.ch (by intro hm; (have e0 := hm); omega)
                              replace hX := (hX.dn t66 ok66 js66)
                              replace U := U.cc t66.go.ch (by intro b hb; exact .inl trivial)
                              have cq9 := SU.ch.size
                              replace SU := SU.xc t66 kp66 (hX.ex.vl.c1 hX.ex.lx.pS rfl) (by intro b hlt hb; have h9 := cq b hlt; have e0 := hb; first | omega | (dsimp only at e0; omega))
                              replace cq := cq_step cq t66.col cq9
                              refine ⟨.inr SU, ?_⟩
                              refine p_gstep (j := 20) (t := 89) (by exact rfl) (by exact rfl) (by exact rfl) (et (gS rfl (gS rfl (gS rfl (gS rfl (gS rfl (gS rfl g0)))))) rfl) rfl (y_not (et g0 rfl)) ?_
                              refine p_gstep (j := 17) (t := 86) (by exact rfl) (by exact rfl) (by exact rfl) (et (gS rfl (gS rfl (gS rfl (gS rfl (gS rfl (gS rfl (gS rfl (gS rfl (gS rfl (gS rfl (gS rfl g0))))))))))) rfl) rfl (y_pickT (et (gS rfl (gS rfl (gS rfl (gS rfl (gS rfl (gS rfl (gS rfl g0))))))) rfl) (et g0 rfl)) ?_
                              refine p_step (by exact rfl) (y_pickF (et (gS rfl (gS rfl (gS rfl (gS rfl (gS rfl (gS rfl (gS rfl (gS rfl (gS rfl (gS rfl (gS rfl (gS rfl g0)))))))))))) rfl) (et g0 rfl)) ?_
                              refine p_step (by exact rfl) (y_moveV (et g0 rfl)) ?_
                              refine gsplitP (i := 99) g0 (fun q67 => ?_) (fun q67 => ?_)
                              · skip
                                cases q67
                              · skip
                                refine p_gstep (j := 30) (t := 99) (by exact rfl) (by exact rfl) (by exact rfl) (et g0 rfl) rfl (y_moveV (et (gS rfl (gS rfl (gS rfl (gS rfl (gS rfl (gS rfl (gS rfl (gS rfl (gS rfl (gS rfl (gS rfl (gS rfl (gS rfl (gS rfl (gS rfl (gS rfl (gS rfl (gS rfl (gS rfl (gS rfl (gS rfl (gS rfl (gS rfl (gS rfl (gS rfl (gS rfl (gS rfl (gS rfl (gS rfl (gS rfl (gS rfl (gS rfl (gS rfl (gS rfl (gS rfl (gS rfl g0)))))))))))))))))))))))))))))))))))) rfl)) ?_
                                refine p_gstep (j := 30) (t := 99) (by exact rfl) (by exact rfl) (by exact rfl) (et (gS rfl g0) rfl) rfl (y_gtr (et g0 rfl) rfl) ?_
                                refine p_gstep (j := 30) (t := 99) (by exact rfl) (by exact rfl) (by exact rfl) (et (gS rfl (gS rfl g0)) rfl) rfl (y_moveV (et g0 rfl)) ?_
                                refine gsplitP (i := 102) g0 (fun q68 => ?_) (fun q68 => ?_)
                                · skip
                                  have hp9 : 0 < (sPlus (triAt s.start f.self (argN f.stack 0)) (slotAt (acctAt s.now.accts f.self).slots (argN f.stack 0)) (argN f.stack 1)) := by have := of_decide_eq_true q68; omega
                                  refine p_gstep (j := 33) (t := 102) (by exact rfl) (by exact rfl) (by exact rfl) (et g0 rfl) rfl (y_moveV (et (gS rfl (gS rfl (gS rfl (gS rfl (gS rfl (gS rfl (gS rfl (gS rfl (gS rfl (gS rfl (gS rfl (gS rfl (gS rfl (gS rfl (gS rfl (gS rfl (gS rfl (gS rfl (gS rfl (gS rfl (gS rfl (gS rfl (gS rfl (gS rfl (gS rfl (gS rfl (gS rfl (gS rfl (gS rfl (gS rfl (gS rfl (gS rfl (gS rfl (gS rfl (gS rfl (gS rfl (gS rfl (gS rfl (gS rfl (gS rfl (gS rfl (gS rfl (gS rfl (gS rfl (gS rfl g0))))))))))))))))))))))))))))))))))))))))))))) rfl)) ?_
                                  refine p_gstep (j := 33) (t := 102) (by exact rfl) (by exact rfl) (by exact rfl) (et (gS rfl g0) rfl) rfl (y_nil (et g0 rfl)) ?_
                                  refine p_gstep (j := 33) (t := 102) (by exact rfl) (by exact rfl) (by exact rfl) (et (gS rfl (gS rfl g0)) rfl) rfl (y_fld fld_75_0 (et g0 rfl)) ?_
                                  refine p_gstep (j := 33) (t := 102) (by exact rfl) (by exact rfl) (by exact rfl) (et (gS rfl (gS rfl (gS rfl g0))) rfl) rfl (y_load1 one_59 (et g0 rfl) (atXLP)) ?_
                                  refine p_gstep (j := 33) (t := 102) (by exact rfl) (by exact rfl) (by exact rfl) (et (gS rfl (gS rfl (gS rfl (gS rfl g0)))) rfl) rfl (y_moveV (et (gS rfl (gS rfl (gS rfl (gS rfl (gS rfl (gS rfl (gS rfl (gS rfl (gS rfl (gS rfl (gS rfl (gS rfl (gS rfl (gS rfl (gS rfl (gS rfl (gS rfl (gS rfl (gS rfl (gS rfl (gS rfl (gS rfl (gS rfl (gS rfl (gS rfl (gS rfl (gS rfl (gS rfl (gS rfl (gS rfl (gS rfl (gS rfl (gS rfl (gS rfl (gS rfl (gS rfl (gS rfl (gS rfl (gS rfl (gS rfl (gS rfl (gS rfl (gS rfl (gS rfl g0)))))))))))))))))))))))))))))))))))))))))))) rfl)) ?_
                                  refine p_geff (j := 33) (t := 102) (by exact rfl) (by exact rfl) (by exact rfl) (et (gS rfl (gS rfl (gS rfl (gS rfl (gS rfl g0))))) rfl) rfl (e_callV cal_308 (aC (et (gS rfl g0) rfl) (aC (et g0 rfl) aN)) (v_refundUp hX.ex.vl hX.ex.ok (sPlus (triAt s.start f.self (argN f.stack 0)) (slotAt (acctAt s.now.accts f.self).slots (argN f.stack 0)) (argN f.stack 1)) (by rw [hX.ref]; show s1.now.refund - (sMinus (triAt s.start f.self (argN f.stack 0)) (slotAt (acctAt s.now.accts f.self).slots (argN f.stack 0)) (argN f.stack 1)) + (sPlus (triAt s.start f.self (argN f.stack 0)) (slotAt (acctAt s.now.accts f.self).slots (argN f.stack 0)) (argN f.stack 1)) ≤ _; rw [hrf]; omega) (hX.jr (by decide)))) (fun v69 w69 h69 => ?_)
                                  obtain ⟨rfl, cl69, cs69, V69, t69, ok69, js69⟩ := h69
                                  have nc8 := (t69.col b8 k8.lt).trans nc8
                                  have nc12 := (t69.col b12 k12.lt).trans nc12
                                  have nc13 := (t69.col b13 k13.lt).trans nc13
                                  have nc55 := (t69.col b55 k55.lt).trans nc55
                                  have kp69 := hX.ex.vl.kC
                                  replace k8 := k8.ch t69.go.ch (by intro hm; (have e0 := hm); omega)
                                  replace k12 := k12.ch t69.go.ch (by intro hm; (have e0 := hm); omega)
                                  replace k13 := k13.ch t69.go.ch (by intro hm; (have e0 := hm); omega)
                                  replace k55 := k55.ch t69.go.ch (by intro hm; (have e0 := hm); omega)
                                  replace hX := (hX.ut t69 ok69 js69)
                                  replace U := U.cc t69.go.ch (by intro b hb; exact .inl trivial)
                                  have cq9 := SU.ch.size
                                  replace SU := SU.xc t69 kp69 (hX.ex.vl.c1 hX.ex.lx.pS rfl) (by intro b hlt hb; have h9 := cq b hlt; have e0 := hb; first | omega | (dsimp only at e0; omega))
                                  replace cq := cq_step cq t69.col cq9
                                  refine ⟨.inr SU, ?_⟩
                                  refine p_gstep (j := 33) (t := 102) (by exact rfl) (by exact rfl) (by exact rfl) (et (gS rfl (gS rfl (gS rfl (gS rfl (gS rfl (gS rfl g0)))))) rfl) rfl (y_not (et g0 rfl)) ?_
                                  refine p_gstep (j := 30) (t := 99) (by exact rfl) (by exact rfl) (by exact rfl) (et (gS rfl (gS rfl (gS rfl (gS rfl (gS rfl (gS rfl (gS rfl (gS rfl (gS rfl (gS rfl (gS rfl g0))))))))))) rfl) rfl (y_pickT (et (gS rfl (gS rfl (gS rfl (gS rfl (gS rfl (gS rfl (gS rfl g0))))))) rfl) (et g0 rfl)) ?_
                                  refine p_step (by exact rfl) (y_pickF (et (gS rfl (gS rfl (gS rfl (gS rfl (gS rfl (gS rfl (gS rfl (gS rfl (gS rfl (gS rfl (gS rfl (gS rfl g0)))))))))))) rfl) (et g0 rfl)) ?_
                                  refine p_nil ?_
                                  refine hK60 _ _ ?_
                                  refine fg3 0 2 111 (gS rfl (gS rfl (gS rfl (gS rfl (gS rfl (gS rfl (gS rfl (gS rfl (gS rfl (gS rfl (gS rfl (gS rfl (gS rfl (gS rfl (gS rfl (gS rfl (gS rfl (gS rfl (gS rfl (gS rfl (gS rfl (gS rfl (gS rfl (gS rfl (gS rfl (gS rfl (gS rfl (gS rfl (gS rfl (gS rfl (gS rfl (gS rfl (gS rfl (gS rfl (gS rfl (gS rfl (gS rfl (gS rfl (gS rfl (gS rfl (gS rfl (gS rfl (gS rfl (gS rfl (gS rfl (gS rfl (gS rfl (gS rfl (gS rfl (gS rfl (gS rfl (gS rfl (gS rfl (gS rfl g0)))))))))))))))))))))))))))))))))))))))))))))))))))))) (gS rfl (gS rfl (gS rfl (gS rfl (gS rfl (gS rfl (gS rfl (gS rfl (gS rfl (gS rfl (gS rfl (gS rfl (gS rfl (gS rfl (gS rfl (gS rfl (gS rfl (gS rfl (gS rfl (gS rfl (gS rfl (gS rfl (gS rfl (gS rfl (gS rfl (gS rfl (gS rfl (gS rfl (gS rfl (gS rfl (gS rfl (gS rfl (gS rfl (gS rfl (gS rfl (gS rfl (gS rfl (gS rfl (gS rfl (gS rfl (gS rfl (gS rfl (gS rfl (gS rfl (gS rfl (gS rfl (gS rfl (gS rfl (gS rfl (gS rfl (gS rfl (gS rfl (gS rfl g0))))))))))))))))))))))))))))))))))))))))))))))))))))) g0 (fun g => ?_)
                                  refine c_false (et g0 rfl) (by rfl) ?_
                                  refine c_skip ?_
                                  refine hK59 _ _ ?_
                                  refine fg2 0 2 (gS rfl (gS rfl g0)) (gS rfl g0) (fun g => ?_)
                                  exact (by
                                    refine c_region ?_
                                    refine l_step (y_moveV (et (gS rfl g0) rfl)) ?_
                                    refine l_step (y_moveV (et (gS rfl g0) rfl)) ?_
                                    refine l_step (y_bld bN bld65_z) ?_
                                    replace hX := hX.done (W := { s1.now with refund := s1.now.refund - (sMinus (triAt s.start f.self (argN f.stack 0)) (slotAt (acctAt s.now.accts f.self).slots (argN f.stack 0)) (argN f.stack 1)) + (sPlus (triAt s.start f.self (argN f.stack 0)) (slotAt (acctAt s.now.accts f.self).slots (argN f.stack 0)) (argN f.stack 1)), accts := putA s1.now.accts (setSlots (acctAt s1.now.accts f.self) (putS (acctAt s1.now.accts f.self).slots (argN f.stack 0) (argN f.stack 1))) }) (c' := c') (ay_slot { s1.now with refund := s1.now.refund - (sMinus (triAt s.start f.self (argN f.stack 0)) (slotAt (acctAt s.now.accts f.self).slots (argN f.stack 0)) (argN f.stack 1)) + (sPlus (triAt s.start f.self (argN f.stack 0)) (slotAt (acctAt s.now.accts f.self).slots (argN f.stack 0)) (argN f.stack 1)) } f.self (argN f.stack 0) (argN f.stack 1)) (by omega) (by show s1.now.refund - (sMinus (triAt s.start f.self (argN f.stack 0)) (slotAt (acctAt s.now.accts f.self).slots (argN f.stack 0)) (argN f.stack 1)) + (sPlus (triAt s.start f.self (argN f.stack 0)) (slotAt (acctAt s.now.accts f.self).slots (argN f.stack 0)) (argN f.stack 1)) + 200 * c' ≤ s1.now.refund + 200 * c1; omega)
                                    refine l_eff (e_callV cal_259 (aC (et (gS rfl (gS rfl g0)) rfl) (aC (et (gS rfl g0) rfl) (aC (v := .int .u16 ((2 : Nat) : Int)) rfl (aC rfl (aC (et g0 rfl) (aC (v := .int .u16 ((1 : Nat) : Int)) rfl aN)))))) (m_settle0 hX.ex hsf hph1 rfl 2 0 1 (by omega) (by decide) (by omega))) (fun v71 w71 h71 => ?_)
                                    obtain ⟨rfl, cs71, y71⟩ := h71
                                    replace k8 := k8.ch y71.et.go.ch (by intro hm; (have e0 := hm); omega)
                                    replace k12 := k12.ch y71.et.go.ch (by intro hm; (have e0 := hm); omega)
                                    replace k13 := k13.ch y71.et.go.ch (by intro hm; (have e0 := hm); omega)
                                    replace k55 := k55.ch y71.et.go.ch (by intro hm; (have e0 := hm); omega)
                                    replace hX := hX.trans y71
                                    replace U := U.cc y71.et.go.ch (by intro b hb; exact .inl trivial)
                                    refine l_nil ?_
                                    refine end0 rfl ?_
                                    rw [hs1] at hX
                                    exact ⟨rfl, _, _, _, hX⟩)
                                · skip
                                  have hp9 : (sPlus (triAt s.start f.self (argN f.stack 0)) (slotAt (acctAt s.now.accts f.self).slots (argN f.stack 0)) (argN f.stack 1)) = 0 := by have := of_decide_eq_false q68; omega
                                  replace hX := hX.ut0 hp9
                                  refine p_gskip (j := 33) (t := 102) (by exact rfl) (by exact rfl) (by exact rfl) (et g0 rfl) rfl rfl ?_
                                  refine p_gskip (j := 33) (t := 102) (by exact rfl) (by exact rfl) (by exact rfl) (et (gS rfl g0) rfl) rfl rfl ?_
                                  refine p_gskip (j := 33) (t := 102) (by exact rfl) (by exact rfl) (by exact rfl) (et (gS rfl (gS rfl g0)) rfl) rfl rfl ?_
                                  refine p_gskip (j := 33) (t := 102) (by exact rfl) (by exact rfl) (by exact rfl) (et (gS rfl (gS rfl (gS rfl g0))) rfl) rfl rfl ?_
                                  refine p_gskip (j := 33) (t := 102) (by exact rfl) (by exact rfl) (by exact rfl) (et (gS rfl (gS rfl (gS rfl (gS rfl g0)))) rfl) rfl rfl ?_
                                  refine p_geskip (j := 33) (t := 102) (by exact rfl) (by exact rfl) (by exact rfl) (et (gS rfl (gS rfl (gS rfl (gS rfl (gS rfl g0))))) rfl) rfl rfl ⟨.inr SU, ?_⟩
                                  refine p_gskip (j := 33) (t := 102) (by exact rfl) (by exact rfl) (by exact rfl) (et (gS rfl (gS rfl (gS rfl (gS rfl (gS rfl (gS rfl g0)))))) rfl) rfl rfl ?_
                                  refine p_gstep (j := 30) (t := 99) (by exact rfl) (by exact rfl) (by exact rfl) (et (gS rfl (gS rfl (gS rfl (gS rfl (gS rfl (gS rfl (gS rfl (gS rfl (gS rfl (gS rfl (gS rfl g0))))))))))) rfl) rfl (y_pickF (et (gS rfl (gS rfl (gS rfl (gS rfl (gS rfl (gS rfl (gS rfl g0))))))) rfl) rfl) ?_
                                  refine p_step (by exact rfl) (y_pickF (et (gS rfl (gS rfl (gS rfl (gS rfl (gS rfl (gS rfl (gS rfl (gS rfl (gS rfl (gS rfl (gS rfl (gS rfl g0)))))))))))) rfl) (et g0 rfl)) ?_
                                  refine p_nil ?_
                                  refine hK60 _ _ ?_
                                  refine fg3 0 2 111 (gS rfl (gS rfl (gS rfl (gS rfl (gS rfl (gS rfl (gS rfl (gS rfl (gS rfl (gS rfl (gS rfl (gS rfl (gS rfl (gS rfl (gS rfl (gS rfl (gS rfl (gS rfl (gS rfl (gS rfl (gS rfl (gS rfl (gS rfl (gS rfl (gS rfl (gS rfl (gS rfl (gS rfl (gS rfl (gS rfl (gS rfl (gS rfl (gS rfl (gS rfl (gS rfl (gS rfl (gS rfl (gS rfl (gS rfl (gS rfl (gS rfl (gS rfl (gS rfl (gS rfl (gS rfl (gS rfl (gS rfl (gS rfl (gS rfl (gS rfl (gS rfl (gS rfl (gS rfl (gS rfl g0)))))))))))))))))))))))))))))))))))))))))))))))))))))) (gS rfl (gS rfl (gS rfl (gS rfl (gS rfl (gS rfl (gS rfl (gS rfl (gS rfl (gS rfl (gS rfl (gS rfl (gS rfl (gS rfl (gS rfl (gS rfl (gS rfl (gS rfl (gS rfl (gS rfl (gS rfl (gS rfl (gS rfl (gS rfl (gS rfl (gS rfl (gS rfl (gS rfl (gS rfl (gS rfl (gS rfl (gS rfl (gS rfl (gS rfl (gS rfl (gS rfl (gS rfl (gS rfl (gS rfl (gS rfl (gS rfl (gS rfl (gS rfl (gS rfl (gS rfl (gS rfl (gS rfl (gS rfl (gS rfl (gS rfl (gS rfl (gS rfl (gS rfl g0))))))))))))))))))))))))))))))))))))))))))))))))))))) g0 (fun g => ?_)
                                  refine c_false (et g0 rfl) rfl ?_
                                  refine c_skip ?_
                                  refine hK59 _ _ ?_
                                  refine fg2 0 2 (gS rfl (gS rfl g0)) (gS rfl g0) (fun g => ?_)
                                  exact (by
                                    refine c_region ?_
                                    refine l_step (y_moveV (et (gS rfl g0) rfl)) ?_
                                    refine l_step (y_moveV (et (gS rfl g0) rfl)) ?_
                                    refine l_step (y_bld bN bld65_z) ?_
                                    replace hX := hX.done (W := { s1.now with refund := s1.now.refund - (sMinus (triAt s.start f.self (argN f.stack 0)) (slotAt (acctAt s.now.accts f.self).slots (argN f.stack 0)) (argN f.stack 1)) + (sPlus (triAt s.start f.self (argN f.stack 0)) (slotAt (acctAt s.now.accts f.self).slots (argN f.stack 0)) (argN f.stack 1)), accts := putA s1.now.accts (setSlots (acctAt s1.now.accts f.self) (putS (acctAt s1.now.accts f.self).slots (argN f.stack 0) (argN f.stack 1))) }) (c' := c') (ay_slot { s1.now with refund := s1.now.refund - (sMinus (triAt s.start f.self (argN f.stack 0)) (slotAt (acctAt s.now.accts f.self).slots (argN f.stack 0)) (argN f.stack 1)) + (sPlus (triAt s.start f.self (argN f.stack 0)) (slotAt (acctAt s.now.accts f.self).slots (argN f.stack 0)) (argN f.stack 1)) } f.self (argN f.stack 0) (argN f.stack 1)) (by omega) (by show s1.now.refund - (sMinus (triAt s.start f.self (argN f.stack 0)) (slotAt (acctAt s.now.accts f.self).slots (argN f.stack 0)) (argN f.stack 1)) + (sPlus (triAt s.start f.self (argN f.stack 0)) (slotAt (acctAt s.now.accts f.self).slots (argN f.stack 0)) (argN f.stack 1)) + 200 * c' ≤ s1.now.refund + 200 * c1; omega)
                                    refine l_eff (e_callV cal_259 (aC (et (gS rfl (gS rfl g0)) rfl) (aC (et (gS rfl g0) rfl) (aC (v := .int .u16 ((2 : Nat) : Int)) rfl (aC rfl (aC (et g0 rfl) (aC (v := .int .u16 ((1 : Nat) : Int)) rfl aN)))))) (m_settle0 hX.ex hsf hph1 rfl 2 0 1 (by omega) (by decide) (by omega))) (fun v73 w73 h73 => ?_)
                                    obtain ⟨rfl, cs73, y73⟩ := h73
                                    replace k8 := k8.ch y73.et.go.ch (by intro hm; (have e0 := hm); omega)
                                    replace k12 := k12.ch y73.et.go.ch (by intro hm; (have e0 := hm); omega)
                                    replace k13 := k13.ch y73.et.go.ch (by intro hm; (have e0 := hm); omega)
                                    replace k55 := k55.ch y73.et.go.ch (by intro hm; (have e0 := hm); omega)
                                    replace hX := hX.trans y73
                                    replace U := U.cc y73.et.go.ch (by intro b hb; exact .inl trivial)
                                    refine l_nil ?_
                                    refine end0 rfl ?_
                                    rw [hs1] at hX
                                    exact ⟨rfl, _, _, _, hX⟩)
                            · skip
                              have hm9 : (sMinus (triAt s.start f.self (argN f.stack 0)) (slotAt (acctAt s.now.accts f.self).slots (argN f.stack 0)) (argN f.stack 1)) = 0 := by have := of_decide_eq_false q65; omega
                              replace hX := hX.dn0 hm9
                              refine p_gskip (j := 20) (t := 89) (by exact rfl) (by exact rfl) (by exact rfl) (et g0 rfl) rfl rfl ?_
                              refine p_gskip (j := 20) (t := 89) (by exact rfl) (by exact rfl) (by exact rfl) (et (gS rfl g0) rfl) rfl rfl ?_
                              refine p_gskip (j := 20) (t := 89) (by exact rfl) (by exact rfl) (by exact rfl) (et (gS rfl (gS rfl g0)) rfl) rfl rfl ?_
                              refine p_gskip (j := 20) (t := 89) (by exact rfl) (by exact rfl) (by exact rfl) (et (gS rfl (gS rfl (gS rfl g0))) rfl) rfl rfl ?_
                              refine p_gskip (j := 20) (t := 89) (by exact rfl) (by exact rfl) (by exact rfl) (et (gS rfl (gS rfl (gS rfl (gS rfl g0)))) rfl) rfl rfl ?_
                              refine p_geskip (j := 20) (t := 89) (by exact rfl) (by exact rfl) (by exact rfl) (et (gS rfl (gS rfl (gS rfl (gS rfl (gS rfl g0))))) rfl) rfl rfl ⟨.inr SU, ?_⟩
                              refine p_gskip (j := 20) (t := 89) (by exact rfl) (by exact rfl) (by exact rfl) (et (gS rfl (gS rfl (gS rfl (gS rfl (gS rfl (gS rfl g0)))))) rfl) rfl rfl ?_
                              refine p_gstep (j := 17) (t := 86) (by exact rfl) (by exact rfl) (by exact rfl) (et (gS rfl (gS rfl (gS rfl (gS rfl (gS rfl (gS rfl (gS rfl (gS rfl (gS rfl (gS rfl (gS rfl g0))))))))))) rfl) rfl (y_pickF (et (gS rfl (gS rfl (gS rfl (gS rfl (gS rfl (gS rfl (gS rfl g0))))))) rfl) rfl) ?_
                              refine p_step (by exact rfl) (y_pickF (et (gS rfl (gS rfl (gS rfl (gS rfl (gS rfl (gS rfl (gS rfl (gS rfl (gS rfl (gS rfl (gS rfl (gS rfl g0)))))))))))) rfl) (et g0 rfl)) ?_
                              refine p_step (by exact rfl) (y_moveV (et g0 rfl)) ?_
                              refine p_gstep (j := 30) (t := 99) (by exact rfl) (by exact rfl) (by exact rfl) (et g0 rfl) rfl (y_moveV (et (gS rfl (gS rfl (gS rfl (gS rfl (gS rfl (gS rfl (gS rfl (gS rfl (gS rfl (gS rfl (gS rfl (gS rfl (gS rfl (gS rfl (gS rfl (gS rfl (gS rfl (gS rfl (gS rfl (gS rfl (gS rfl (gS rfl (gS rfl (gS rfl (gS rfl (gS rfl (gS rfl (gS rfl (gS rfl (gS rfl (gS rfl (gS rfl (gS rfl (gS rfl (gS rfl g0))))))))))))))))))))))))))))))))))) rfl)) ?_
                              refine p_gstep (j := 30) (t := 99) (by exact rfl) (by exact rfl) (by exact rfl) (et (gS rfl g0) rfl) rfl (y_gtr (et g0 rfl) rfl) ?_
                              refine p_gstep (j := 30) (t := 99) (by exact rfl) (by exact rfl) (by exact rfl) (et (gS rfl (gS rfl g0)) rfl) rfl (y_moveV (et g0 rfl)) ?_
                              refine gsplitP (i := 102) g0 (fun q74 => ?_) (fun q74 => ?_)
                              · skip
                                have hp9 : 0 < (sPlus (triAt s.start f.self (argN f.stack 0)) (slotAt (acctAt s.now.accts f.self).slots (argN f.stack 0)) (argN f.stack 1)) := by have := of_decide_eq_true q74; omega
                                refine p_gstep (j := 33) (t := 102) (by exact rfl) (by exact rfl) (by exact rfl) (et g0 rfl) rfl (y_moveV (et (gS rfl (gS rfl (gS rfl (gS rfl (gS rfl (gS rfl (gS rfl (gS rfl (gS rfl (gS rfl (gS rfl (gS rfl (gS rfl (gS rfl (gS rfl (gS rfl (gS rfl (gS rfl (gS rfl (gS rfl (gS rfl (gS rfl (gS rfl (gS rfl (gS rfl (gS rfl (gS rfl (gS rfl (gS rfl (gS rfl (gS rfl (gS rfl (gS rfl (gS rfl (gS rfl (gS rfl (gS rfl (gS rfl (gS rfl (gS rfl (gS rfl (gS rfl (gS rfl (gS rfl g0)))))))))))))))))))))))))))))))))))))))))))) rfl)) ?_
                                refine p_gstep (j := 33) (t := 102) (by exact rfl) (by exact rfl) (by exact rfl) (et (gS rfl g0) rfl) rfl (y_nil (et g0 rfl)) ?_
                                refine p_gstep (j := 33) (t := 102) (by exact rfl) (by exact rfl) (by exact rfl) (et (gS rfl (gS rfl g0)) rfl) rfl (y_fld fld_75_0 (et g0 rfl)) ?_
                                refine p_gstep (j := 33) (t := 102) (by exact rfl) (by exact rfl) (by exact rfl) (et (gS rfl (gS rfl (gS rfl g0))) rfl) rfl (y_load1 one_59 (et g0 rfl) (atXLP)) ?_
                                refine p_gstep (j := 33) (t := 102) (by exact rfl) (by exact rfl) (by exact rfl) (et (gS rfl (gS rfl (gS rfl (gS rfl g0)))) rfl) rfl (y_moveV (et (gS rfl (gS rfl (gS rfl (gS rfl (gS rfl (gS rfl (gS rfl (gS rfl (gS rfl (gS rfl (gS rfl (gS rfl (gS rfl (gS rfl (gS rfl (gS rfl (gS rfl (gS rfl (gS rfl (gS rfl (gS rfl (gS rfl (gS rfl (gS rfl (gS rfl (gS rfl (gS rfl (gS rfl (gS rfl (gS rfl (gS rfl (gS rfl (gS rfl (gS rfl (gS rfl (gS rfl (gS rfl (gS rfl (gS rfl (gS rfl (gS rfl (gS rfl (gS rfl g0))))))))))))))))))))))))))))))))))))))))))) rfl)) ?_
                                refine p_geff (j := 33) (t := 102) (by exact rfl) (by exact rfl) (by exact rfl) (et (gS rfl (gS rfl (gS rfl (gS rfl (gS rfl g0))))) rfl) rfl (e_callV cal_308 (aC (et (gS rfl g0) rfl) (aC (et g0 rfl) aN)) (v_refundUp hX.ex.vl hX.ex.ok (sPlus (triAt s.start f.self (argN f.stack 0)) (slotAt (acctAt s.now.accts f.self).slots (argN f.stack 0)) (argN f.stack 1)) (by rw [hX.ref]; show s1.now.refund - (sMinus (triAt s.start f.self (argN f.stack 0)) (slotAt (acctAt s.now.accts f.self).slots (argN f.stack 0)) (argN f.stack 1)) + (sPlus (triAt s.start f.self (argN f.stack 0)) (slotAt (acctAt s.now.accts f.self).slots (argN f.stack 0)) (argN f.stack 1)) ≤ _; rw [hrf]; omega) (hX.jr (by decide)))) (fun v75 w75 h75 => ?_)
                                obtain ⟨rfl, cl75, cs75, V75, t75, ok75, js75⟩ := h75
                                have nc8 := (t75.col b8 k8.lt).trans nc8
                                have nc12 := (t75.col b12 k12.lt).trans nc12
                                have nc13 := (t75.col b13 k13.lt).trans nc13
                                have nc55 := (t75.col b55 k55.lt).trans nc55
                                have kp75 := hX.ex.vl.kC
                                replace k8 := k8.ch t75.go.ch (by intro hm; (have e0 := hm); omega)
                                replace k12 := k12.ch t75.go.ch (by intro hm; (have e0 := hm); omega)
                                replace k13 := k13.ch t75.go.ch (by intro hm; (have e0 := hm); omega)
                                replace k55 := k55.ch t75.go.ch (by intro hm; (have e0 := hm); omega)
                                replace hX := (hX.ut t75 ok75 js75)
                                replace U := U.cc t75.go.ch (by intro b hb; exact .inl trivial)
                                have cq9 := SU.ch.size
                                replace SU := SU.xc t75 kp75 (hX.ex.vl.c1 hX.ex.lx.pS rfl) (by intro b hlt hb; have h9 := cq b hlt; have e0 := hb; first | omega | (dsimp only at e0; omega))
                                replace cq := cq_step cq t75.col cq9
                                refine ⟨.inr SU, ?_⟩
                                refine p_gstep (j := 33) (t := 102) (by exact rfl) (by exact rfl) (by exact rfl) (et (gS rfl (gS rfl (gS rfl (gS rfl (gS rfl (gS rfl g0)))))) rfl) rfl (y_not (et g0 rfl)) ?_
                                refine p_gstep (j := 30) (t := 99) (by exact rfl) (by exact rfl) (by exact rfl) (et (gS rfl (gS rfl (gS rfl (gS rfl (gS rfl (gS rfl (gS rfl (gS rfl (gS rfl (gS rfl (gS rfl g0))))))))))) rfl) rfl (y_pickT (et (gS rfl (gS rfl (gS rfl (gS rfl (gS rfl (gS rfl (gS rfl g0))))))) rfl) (et g0 rfl)) ?_
                                refine p_step (by exact rfl) (y_pickF (et (gS rfl (gS rfl (gS rfl (gS rfl (gS rfl (gS rfl (gS rfl (gS rfl (gS rfl (gS rfl (gS rfl (gS rfl g0)))))))))))) rfl) (et g0 rfl)) ?_
                                refine p_nil ?_
                                refine hK60 _ _ ?_
                                refine fg3 0 2 111 (gS rfl (gS rfl (gS rfl (gS rfl (gS rfl (gS rfl (gS rfl (gS rfl (gS rfl (gS rfl (gS rfl (gS rfl (gS rfl (gS rfl (gS rfl (gS rfl (gS rfl (gS rfl (gS rfl (gS rfl (gS rfl (gS rfl (gS rfl (gS rfl (gS rfl (gS rfl (gS rfl (gS rfl (gS rfl (gS rfl (gS rfl (gS rfl (gS rfl (gS rfl (gS rfl (gS rfl (gS rfl (gS rfl (gS rfl (gS rfl (gS rfl (gS rfl (gS rfl (gS rfl (gS rfl (gS rfl (gS rfl (gS rfl (gS rfl (gS rfl (gS rfl (gS rfl (gS rfl g0))))))))))))))))))))))))))))))))))))))))))))))))))))) (gS rfl (gS rfl (gS rfl (gS rfl (gS rfl (gS rfl (gS rfl (gS rfl (gS rfl (gS rfl (gS rfl (gS rfl (gS rfl (gS rfl (gS rfl (gS rfl (gS rfl (gS rfl (gS rfl (gS rfl (gS rfl (gS rfl (gS rfl (gS rfl (gS rfl (gS rfl (gS rfl (gS rfl (gS rfl (gS rfl (gS rfl (gS rfl (gS rfl (gS rfl (gS rfl (gS rfl (gS rfl (gS rfl (gS rfl (gS rfl (gS rfl (gS rfl (gS rfl (gS rfl (gS rfl (gS rfl (gS rfl (gS rfl (gS rfl (gS rfl (gS rfl (gS rfl g0)))))))))))))))))))))))))))))))))))))))))))))))))))) g0 (fun g => ?_)
                                refine c_false (et g0 rfl) (by rfl) ?_
                                refine c_skip ?_
                                refine hK59 _ _ ?_
                                refine fg2 0 2 (gS rfl (gS rfl g0)) (gS rfl g0) (fun g => ?_)
                                exact (by
                                  refine c_region ?_
                                  refine l_step (y_moveV (et (gS rfl g0) rfl)) ?_
                                  refine l_step (y_moveV (et (gS rfl g0) rfl)) ?_
                                  refine l_step (y_bld bN bld65_z) ?_
                                  replace hX := hX.done (W := { s1.now with refund := s1.now.refund - (sMinus (triAt s.start f.self (argN f.stack 0)) (slotAt (acctAt s.now.accts f.self).slots (argN f.stack 0)) (argN f.stack 1)) + (sPlus (triAt s.start f.self (argN f.stack 0)) (slotAt (acctAt s.now.accts f.self).slots (argN f.stack 0)) (argN f.stack 1)), accts := putA s1.now.accts (setSlots (acctAt s1.now.accts f.self) (putS (acctAt s1.now.accts f.self).slots (argN f.stack 0) (argN f.stack 1))) }) (c' := c') (ay_slot { s1.now with refund := s1.now.refund - (sMinus (triAt s.start f.self (argN f.stack 0)) (slotAt (acctAt s.now.accts f.self).slots (argN f.stack 0)) (argN f.stack 1)) + (sPlus (triAt s.start f.self (argN f.stack 0)) (slotAt (acctAt s.now.accts f.self).slots (argN f.stack 0)) (argN f.stack 1)) } f.self (argN f.stack 0) (argN f.stack 1)) (by omega) (by show s1.now.refund - (sMinus (triAt s.start f.self (argN f.stack 0)) (slotAt (acctAt s.now.accts f.self).slots (argN f.stack 0)) (argN f.stack 1)) + (sPlus (triAt s.start f.self (argN f.stack 0)) (slotAt (acctAt s.now.accts f.self).slots (argN f.stack 0)) (argN f.stack 1)) + 200 * c' ≤ s1.now.refund + 200 * c1; omega)
                                  refine l_eff (e_callV cal_259 (aC (et (gS rfl (gS rfl g0)) rfl) (aC (et (gS rfl g0) rfl) (aC (v := .int .u16 ((2 : Nat) : Int)) rfl (aC rfl (aC (et g0 rfl) (aC (v := .int .u16 ((1 : Nat) : Int)) rfl aN)))))) (m_settle0 hX.ex hsf hph1 rfl 2 0 1 (by omega) (by decide) (by omega))) (fun v77 w77 h77 => ?_)
                                  obtain ⟨rfl, cs77, y77⟩ := h77
                                  replace k8 := k8.ch y77.et.go.ch (by intro hm; (have e0 := hm); omega)
                                  replace k12 := k12.ch y77.et.go.ch (by intro hm; (have e0 := hm); omega)
                                  replace k13 := k13.ch y77.et.go.ch (by intro hm; (have e0 := hm); omega)
                                  replace k55 := k55.ch y77.et.go.ch (by intro hm; (have e0 := hm); omega)
                                  replace hX := hX.trans y77
                                  replace U := U.cc y77.et.go.ch (by intro b hb; exact .inl trivial)
                                  refine l_nil ?_
                                  refine end0 rfl ?_
                                  rw [hs1] at hX
                                  exact ⟨rfl, _, _, _, hX⟩)
                              · skip
                                have hp9 : (sPlus (triAt s.start f.self (argN f.stack 0)) (slotAt (acctAt s.now.accts f.self).slots (argN f.stack 0)) (argN f.stack 1)) = 0 := by have := of_decide_eq_false q74; omega
                                replace hX := hX.ut0 hp9
                                refine p_gskip (j := 33) (t := 102) (by exact rfl) (by exact rfl) (by exact rfl) (et g0 rfl) rfl rfl ?_
                                refine p_gskip (j := 33) (t := 102) (by exact rfl) (by exact rfl) (by exact rfl) (et (gS rfl g0) rfl) rfl rfl ?_
                                refine p_gskip (j := 33) (t := 102) (by exact rfl) (by exact rfl) (by exact rfl) (et (gS rfl (gS rfl g0)) rfl) rfl rfl ?_
                                refine p_gskip (j := 33) (t := 102) (by exact rfl) (by exact rfl) (by exact rfl) (et (gS rfl (gS rfl (gS rfl g0))) rfl) rfl rfl ?_
                                refine p_gskip (j := 33) (t := 102) (by exact rfl) (by exact rfl) (by exact rfl) (et (gS rfl (gS rfl (gS rfl (gS rfl g0)))) rfl) rfl rfl ?_
                                refine p_geskip (j := 33) (t := 102) (by exact rfl) (by exact rfl) (by exact rfl) (et (gS rfl (gS rfl (gS rfl (gS rfl (gS rfl g0))))) rfl) rfl rfl ⟨.inr SU, ?_⟩
                                refine p_gskip (j := 33) (t := 102) (by exact rfl) (by exact rfl) (by exact rfl) (et (gS rfl (gS rfl (gS rfl (gS rfl (gS rfl (gS rfl g0)))))) rfl) rfl rfl ?_
                                refine p_gstep (j := 30) (t := 99) (by exact rfl) (by exact rfl) (by exact rfl) (et (gS rfl (gS rfl (gS rfl (gS rfl (gS rfl (gS rfl (gS rfl (gS rfl (gS rfl (gS rfl (gS rfl g0))))))))))) rfl) rfl (y_pickF (et (gS rfl (gS rfl (gS rfl (gS rfl (gS rfl (gS rfl (gS rfl g0))))))) rfl) rfl) ?_
                                refine p_step (by exact rfl) (y_pickF (et (gS rfl (gS rfl (gS rfl (gS rfl (gS rfl (gS rfl (gS rfl (gS rfl (gS rfl (gS rfl (gS rfl (gS rfl g0)))))))))))) rfl) (et g0 rfl)) ?_
                                refine p_nil ?_
                                refine hK60 _ _ ?_
                                refine fg3 0 2 111 (gS rfl (gS rfl (gS rfl (gS rfl (gS rfl (gS rfl (gS rfl (gS rfl (gS rfl (gS rfl (gS rfl (gS rfl (gS rfl (gS rfl (gS rfl (gS rfl (gS rfl (gS rfl (gS rfl (gS rfl (gS rfl (gS rfl (gS rfl (gS rfl (gS rfl (gS rfl (gS rfl (gS rfl (gS rfl (gS rfl (gS rfl (gS rfl (gS rfl (gS rfl (gS rfl (gS rfl (gS rfl (gS rfl (gS rfl (gS rfl (gS rfl (gS rfl (gS rfl (gS rfl (gS rfl (gS rfl (gS rfl (gS rfl (gS rfl (gS rfl (gS rfl (gS rfl (gS rfl g0))))))))))))))))))))))))))))))))))))))))))))))))))))) (gS rfl (gS rfl (gS rfl (gS rfl (gS rfl (gS rfl (gS rfl (gS rfl (gS rfl (gS rfl (gS rfl (gS rfl (gS rfl (gS rfl (gS rfl (gS rfl (gS rfl (gS rfl (gS rfl (gS rfl (gS rfl (gS rfl (gS rfl (gS rfl (gS rfl (gS rfl (gS rfl (gS rfl (gS rfl (gS rfl (gS rfl (gS rfl (gS rfl (gS rfl (gS rfl (gS rfl (gS rfl (gS rfl (gS rfl (gS rfl (gS rfl (gS rfl (gS rfl (gS rfl (gS rfl (gS rfl (gS rfl (gS rfl (gS rfl (gS rfl (gS rfl (gS rfl g0)))))))))))))))))))))))))))))))))))))))))))))))))))) g0 (fun g => ?_)
                                refine c_false (et g0 rfl) rfl ?_
                                refine c_skip ?_
                                refine hK59 _ _ ?_
                                refine fg2 0 2 (gS rfl (gS rfl g0)) (gS rfl g0) (fun g => ?_)
                                exact (by
                                  refine c_region ?_
                                  refine l_step (y_moveV (et (gS rfl g0) rfl)) ?_
                                  refine l_step (y_moveV (et (gS rfl g0) rfl)) ?_
                                  refine l_step (y_bld bN bld65_z) ?_
                                  replace hX := hX.done (W := { s1.now with refund := s1.now.refund - (sMinus (triAt s.start f.self (argN f.stack 0)) (slotAt (acctAt s.now.accts f.self).slots (argN f.stack 0)) (argN f.stack 1)) + (sPlus (triAt s.start f.self (argN f.stack 0)) (slotAt (acctAt s.now.accts f.self).slots (argN f.stack 0)) (argN f.stack 1)), accts := putA s1.now.accts (setSlots (acctAt s1.now.accts f.self) (putS (acctAt s1.now.accts f.self).slots (argN f.stack 0) (argN f.stack 1))) }) (c' := c') (ay_slot { s1.now with refund := s1.now.refund - (sMinus (triAt s.start f.self (argN f.stack 0)) (slotAt (acctAt s.now.accts f.self).slots (argN f.stack 0)) (argN f.stack 1)) + (sPlus (triAt s.start f.self (argN f.stack 0)) (slotAt (acctAt s.now.accts f.self).slots (argN f.stack 0)) (argN f.stack 1)) } f.self (argN f.stack 0) (argN f.stack 1)) (by omega) (by show s1.now.refund - (sMinus (triAt s.start f.self (argN f.stack 0)) (slotAt (acctAt s.now.accts f.self).slots (argN f.stack 0)) (argN f.stack 1)) + (sPlus (triAt s.start f.self (argN f.stack 0)) (slotAt (acctAt s.now.accts f.self).slots (argN f.stack 0)) (argN f.stack 1)) + 200 * c' ≤ s1.now.refund + 200 * c1; omega)
                                  refine l_eff (e_callV cal_259 (aC (et (gS rfl (gS rfl g0)) rfl) (aC (et (gS rfl g0) rfl) (aC (v := .int .u16 ((2 : Nat) : Int)) rfl (aC rfl (aC (et g0 rfl) (aC (v := .int .u16 ((1 : Nat) : Int)) rfl aN)))))) (m_settle0 hX.ex hsf hph1 rfl 2 0 1 (by omega) (by decide) (by omega))) (fun v79 w79 h79 => ?_)
                                  obtain ⟨rfl, cs79, y79⟩ := h79
                                  replace k8 := k8.ch y79.et.go.ch (by intro hm; (have e0 := hm); omega)
                                  replace k12 := k12.ch y79.et.go.ch (by intro hm; (have e0 := hm); omega)
                                  replace k13 := k13.ch y79.et.go.ch (by intro hm; (have e0 := hm); omega)
                                  replace k55 := k55.ch y79.et.go.ch (by intro hm; (have e0 := hm); omega)
                                  replace hX := hX.trans y79
                                  replace U := U.cc y79.et.go.ch (by intro b hb; exact .inl trivial)
                                  refine l_nil ?_
                                  refine end0 rfl ?_
                                  rw [hs1] at hX
                                  exact ⟨rfl, _, _, _, hX⟩)
                        · skip
                          have heq9 : (absY s1.now).slot f.self (argN f.stack 0) = (argN f.stack 1) := by
                            show slotAt (acctAt s1.now.accts f.self).slots (argN f.stack 0) = _
                            rw [hac]
                            have := of_decide_eq_false q62
                            omega
                          replace hX := ((XD.start hX).more).to (B := { absY s1.now with slot := fset2 (absY s1.now).slot f.self (argN f.stack 0) (argN f.stack 1) }) (by rw [fset2_self _ heq9])
                          refine p_gskip (j := 3) (t := 72) (by exact rfl) (by exact rfl) (by exact rfl) (et g0 rfl) rfl rfl ?_
                          refine p_gskip (j := 3) (t := 72) (by exact rfl) (by exact rfl) (by exact rfl) (et (gS rfl g0) rfl) rfl rfl ?_
                          refine p_gskip (j := 3) (t := 72) (by exact rfl) (by exact rfl) (by exact rfl) (et (gS rfl (gS rfl g0)) rfl) rfl rfl ?_
                          refine p_gskip (j := 3) (t := 72) (by exact rfl) (by exact rfl) (by exact rfl) (et (gS rfl (gS rfl (gS rfl g0))) rfl) rfl rfl ?_
                          refine p_gskip (j := 3) (t := 72) (by exact rfl) (by exact rfl) (by exact rfl) (et (gS rfl (gS rfl (gS rfl (gS rfl g0)))) rfl) rfl rfl ?_
                          refine p_gskip (j := 3) (t := 72) (by exact rfl) (by exact rfl) (by exact rfl) (et (gS rfl (gS rfl (gS rfl (gS rfl (gS rfl g0))))) rfl) rfl rfl ?_
                          refine p_gskip (j := 3) (t := 72) (by exact rfl) (by exact rfl) (by exact rfl) (et (gS rfl (gS rfl (gS rfl (gS rfl (gS rfl (gS rfl g0)))))) rfl) rfl rfl ?_
                          refine p_gskip (j := 3) (t := 72) (by exact rfl) (by exact rfl) (by exact rfl) (et (gS rfl (gS rfl (gS rfl (gS rfl (gS rfl (gS rfl (gS rfl g0))))))) rfl) rfl rfl ?_
                          refine p_gskip (j := 3) (t := 72) (by exact rfl) (by exact rfl) (by exact rfl) (et (gS rfl (gS rfl (gS rfl (gS rfl (gS rfl (gS rfl (gS rfl (gS rfl g0)))))))) rfl) rfl rfl ?_
                          refine p_gskip (j := 3) (t := 72) (by exact rfl) (by exact rfl) (by exact rfl) (et (gS rfl (gS rfl (gS rfl (gS rfl (gS rfl (gS rfl (gS rfl (gS rfl (gS rfl g0))))))))) rfl) rfl rfl ?_
                          refine p_geskip (j := 3) (t := 72) (by exact rfl) (by exact rfl) (by exact rfl) (et (gS rfl (gS rfl (gS rfl (gS rfl (gS rfl (gS rfl (gS rfl (gS rfl (gS rfl (gS rfl g0)))))))))) rfl) rfl rfl ⟨.inr SU, ?_⟩
                          refine p_gskip (j := 3) (t := 72) (by exact rfl) (by exact rfl) (by exact rfl) (et (gS rfl (gS rfl (gS rfl (gS rfl (gS rfl (gS rfl (gS rfl (gS rfl (gS rfl (gS rfl (gS rfl g0))))))))))) rfl) rfl rfl ?_
                          refine p_step (by exact rfl) (y_pickF (et (gS rfl (gS rfl (gS rfl (gS rfl (gS rfl (gS rfl (gS rfl (gS rfl (gS rfl (gS rfl (gS rfl (gS rfl g0)))))))))))) rfl) rfl) ?_
                          refine p_step (by exact rfl) (y_moveV (et g0 rfl)) ?_
                          refine p_gstep (j := 17) (t := 86) (by exact rfl) (by exact rfl) (by exact rfl) (et g0 rfl) rfl (y_moveV (et (gS rfl (gS rfl (gS rfl (gS rfl (gS rfl (gS rfl (gS rfl (gS rfl (gS rfl (gS rfl (gS rfl (gS rfl (gS rfl (gS rfl (gS rfl (gS rfl (gS rfl (gS rfl (gS rfl g0))))))))))))))))))) rfl)) ?_
                          refine p_gstep (j := 17) (t := 86) (by exact rfl) (by exact rfl) (by exact rfl) (et (gS rfl g0) rfl) rfl (y_gtr (et g0 rfl) rfl) ?_
                          refine p_gstep (j := 17) (t := 86) (by exact rfl) (by exact rfl) (by exact rfl) (et (gS rfl (gS rfl g0)) rfl) rfl (y_moveV (et g0 rfl)) ?_
                          refine gsplitP (i := 89) g0 (fun q80 => ?_) (fun q80 => ?_)
                          · skip
                            have hm9 : 0 < (sMinus (triAt s.start f.self (argN f.stack 0)) (slotAt (acctAt s.now.accts f.self).slots (argN f.stack 0)) (argN f.stack 1)) := by have := of_decide_eq_true q80; omega
                            refine p_gstep (j := 20) (t := 89) (by exact rfl) (by exact rfl) (by exact rfl) (et g0 rfl) rfl (y_moveV (et (gS rfl (gS rfl (gS rfl (gS rfl (gS rfl (gS rfl (gS rfl (gS rfl (gS rfl (gS rfl (gS rfl (gS rfl (gS rfl (gS rfl (gS rfl (gS rfl (gS rfl (gS rfl (gS rfl (gS rfl (gS rfl (gS rfl (gS rfl (gS rfl (gS rfl (gS rfl (gS rfl (gS rfl (gS rfl g0))))))))))))))))))))))))))))) rfl)) ?_
                            refine p_gstep (j := 20) (t := 89) (by exact rfl) (by exact rfl) (by exact rfl) (et (gS rfl g0) rfl) rfl (y_nil (et g0 rfl)) ?_
                            refine p_gstep (j := 20) (t := 89) (by exact rfl) (by exact rfl) (by exact rfl) (et (gS rfl (gS rfl g0)) rfl) rfl (y_fld fld_75_0 (et g0 rfl)) ?_
                            refine p_gstep (j := 20) (t := 89) (by exact rfl) (by exact rfl) (by exact rfl) (et (gS rfl (gS rfl (gS rfl g0))) rfl) rfl (y_load1 one_59 (et g0 rfl) (atXLP)) ?_
                            refine p_gstep (j := 20) (t := 89) (by exact rfl) (by exact rfl) (by exact rfl) (et (gS rfl (gS rfl (gS rfl (gS rfl g0)))) rfl) rfl (y_moveV (et (gS rfl (gS rfl (gS rfl (gS rfl (gS rfl (gS rfl (gS rfl (gS rfl (gS rfl (gS rfl (gS rfl (gS rfl (gS rfl (gS rfl (gS rfl (gS rfl (gS rfl (gS rfl (gS rfl (gS rfl (gS rfl (gS rfl (gS rfl (gS rfl (gS rfl (gS rfl (gS rfl g0))))))))))))))))))))))))))) rfl)) ?_
                            refine p_geff (j := 20) (t := 89) (by exact rfl) (by exact rfl) (by exact rfl) (et (gS rfl (gS rfl (gS rfl (gS rfl (gS rfl g0))))) rfl) rfl (e_callV cal_307 (aC (et (gS rfl g0) rfl) (aC (et g0 rfl) aN)) (v_refundDown hX.ex.vl hX.ex.ok (sMinus (triAt s.start f.self (argN f.stack 0)) (slotAt (acctAt s.now.accts f.self).slots (argN f.stack 0)) (argN f.stack 1)) (by rw [hX.ref]; show _ ≤ s1.now.refund; rw [hrf]; exact hok9) (hX.jr (by decide)))) (fun v81 w81 h81 => ?_)
                            obtain ⟨rfl, cl81, cs81, V81, t81, ok81, js81⟩ := h81
                            have nc8 := (t81.col b8 k8.lt).trans nc8
                            have nc12 := (t81.col b12 k12.lt).trans nc12
                            have nc13 := (t81.col b13 k13.lt).trans nc13
                            have nc55 := (t81.col b55 k55.lt).trans nc55
                            have kp81 := hX.ex.vl.kC
                            replace k8 := k8.ch t81.go.ch (by intro hm; (have e0 := hm); omega)
                            replace k12 := k12.ch t81.go.ch (by intro hm; (have e0 := hm); omega)
                            replace k13 := k13.ch t81.go.ch (by intro hm; (have e0 := hm); omega)
                            replace k55 := k55.ch t81.go.ch (by intro hm; (have e0 := hm); omega)
                            replace hX := (hX.dn t81 ok81 js81)
                            replace U := U.cc t81.go.ch (by intro b hb; exact .inl trivial)
                            have cq9 := SU.ch.size
                            replace SU := SU.xc t81 kp81 (hX.ex.vl.c1 hX.ex.lx.pS rfl) (by intro b hlt hb; have h9 := cq b hlt; have e0 := hb; first | omega | (dsimp only at e0; omega))
                            replace cq := cq_step cq t81.col cq9
                            refine ⟨.inr SU, ?_⟩
                            refine p_gstep (j := 20) (t := 89) (by exact rfl) (by exact rfl) (by exact rfl) (et (gS rfl (gS rfl (gS rfl (gS rfl (gS rfl (gS rfl g0)))))) rfl) rfl (y_not (et g0 rfl)) ?_
                            refine p_gstep (j := 17) (t := 86) (by exact rfl) (by exact rfl) (by exact rfl) (et (gS rfl (gS rfl (gS rfl (gS rfl (gS rfl (gS rfl (gS rfl (gS rfl (gS rfl (gS rfl (gS rfl g0))))))))))) rfl) rfl (y_pickT (et (gS rfl (gS rfl (gS rfl (gS rfl (gS rfl (gS rfl (gS rfl g0))))))) rfl) (et g0 rfl)) ?_
                            refine p_step (by exact rfl) (y_pickF (et (gS rfl (gS rfl (gS rfl (gS rfl (gS rfl (gS rfl (gS rfl (gS rfl (gS rfl (gS rfl (gS rfl (gS rfl g0)))))))))))) rfl) (et g0 rfl)) ?_
                            refine p_step (by exact rfl) (y_moveV (et g0 rfl)) ?_
                            refine gsplitP (i := 99) g0 (fun q82 => ?_) (fun q82 => ?_)
                            · skip
                              cases q82
                            · skip
                              refine p_gstep (j := 30) (t := 99) (by exact rfl) (by exact rfl) (by exact rfl) (et g0 rfl) rfl (y_moveV (et (gS rfl (gS rfl (gS rfl (gS rfl (gS rfl (gS rfl (gS rfl (gS rfl (gS rfl (gS rfl (gS rfl (gS rfl (gS rfl (gS rfl (gS rfl (gS rfl (gS rfl (gS rfl (gS rfl (gS rfl (gS rfl (gS rfl (gS rfl (gS rfl (gS rfl (gS rfl (gS rfl (gS rfl (gS rfl (gS rfl (gS rfl (gS rfl (gS rfl (gS rfl (gS rfl g0))))))))))))))))))))))))))))))))))) rfl)) ?_
                              refine p_gstep (j := 30) (t := 99) (by exact rfl) (by exact rfl) (by exact rfl) (et (gS rfl g0) rfl) rfl (y_gtr (et g0 rfl) rfl) ?_
                              refine p_gstep (j := 30) (t := 99) (by exact rfl) (by exact rfl) (by exact rfl) (et (gS rfl (gS rfl g0)) rfl) rfl (y_moveV (et g0 rfl)) ?_
                              refine gsplitP (i := 102) g0 (fun q83 => ?_) (fun q83 => ?_)
                              · skip
                                have hp9 : 0 < (sPlus (triAt s.start f.self (argN f.stack 0)) (slotAt (acctAt s.now.accts f.self).slots (argN f.stack 0)) (argN f.stack 1)) := by have := of_decide_eq_true q83; omega
                                refine p_gstep (j := 33) (t := 102) (by exact rfl) (by exact rfl) (by exact rfl) (et g0 rfl) rfl (y_moveV (et (gS rfl (gS rfl (gS rfl (gS rfl (gS rfl (gS rfl (gS rfl (gS rfl (gS rfl (gS rfl (gS rfl (gS rfl (gS rfl (gS rfl (gS rfl (gS rfl (gS rfl (gS rfl (gS rfl (gS rfl (gS rfl (gS rfl (gS rfl (gS rfl (gS rfl (gS rfl (gS rfl (gS rfl (gS rfl (gS rfl (gS rfl (gS rfl (gS rfl (gS rfl (gS rfl (gS rfl (gS rfl (gS rfl (gS rfl (gS rfl (gS rfl (gS rfl (gS rfl (gS rfl g0)))))))))))))))))))))))))))))))))))))))))))) rfl)) ?_
                                refine p_gstep (j := 33) (t := 102) (by exact rfl) (by exact rfl) (by exact rfl) (et (gS rfl g0) rfl) rfl (y_nil (et g0 rfl)) ?_
                                refine p_gstep (j := 33) (t := 102) (by exact rfl) (by exact rfl) (by exact rfl) (et (gS rfl (gS rfl g0)) rfl) rfl (y_fld fld_75_0 (et g0 rfl)) ?_
                                refine p_gstep (j := 33) (t := 102) (by exact rfl) (by exact rfl) (by exact rfl) (et (gS rfl (gS rfl (gS rfl g0))) rfl) rfl (y_load1 one_59 (et g0 rfl) (atXLP)) ?_
                                refine p_gstep (j := 33) (t := 102) (by exact rfl) (by exact rfl) (by exact rfl) (et (gS rfl (gS rfl (gS rfl (gS rfl g0)))) rfl) rfl (y_moveV (et (gS rfl (gS rfl (gS rfl (gS rfl (gS rfl (gS rfl (gS rfl (gS rfl (gS rfl (gS rfl (gS rfl (gS rfl (gS rfl (gS rfl (gS rfl (gS rfl (gS rfl (gS rfl (gS rfl (gS rfl (gS rfl (gS rfl (gS rfl (gS rfl (gS rfl (gS rfl (gS rfl (gS rfl (gS rfl (gS rfl (gS rfl (gS rfl (gS rfl (gS rfl (gS rfl (gS rfl (gS rfl (gS rfl (gS rfl (gS rfl (gS rfl (gS rfl (gS rfl g0))))))))))))))))))))))))))))))))))))))))))) rfl)) ?_
                                refine p_geff (j := 33) (t := 102) (by exact rfl) (by exact rfl) (by exact rfl) (et (gS rfl (gS rfl (gS rfl (gS rfl (gS rfl g0))))) rfl) rfl (e_callV cal_308 (aC (et (gS rfl g0) rfl) (aC (et g0 rfl) aN)) (v_refundUp hX.ex.vl hX.ex.ok (sPlus (triAt s.start f.self (argN f.stack 0)) (slotAt (acctAt s.now.accts f.self).slots (argN f.stack 0)) (argN f.stack 1)) (by rw [hX.ref]; show s1.now.refund - (sMinus (triAt s.start f.self (argN f.stack 0)) (slotAt (acctAt s.now.accts f.self).slots (argN f.stack 0)) (argN f.stack 1)) + (sPlus (triAt s.start f.self (argN f.stack 0)) (slotAt (acctAt s.now.accts f.self).slots (argN f.stack 0)) (argN f.stack 1)) ≤ _; rw [hrf]; omega) (hX.jr (by decide)))) (fun v84 w84 h84 => ?_)
                                obtain ⟨rfl, cl84, cs84, V84, t84, ok84, js84⟩ := h84
                                have nc8 := (t84.col b8 k8.lt).trans nc8
                                have nc12 := (t84.col b12 k12.lt).trans nc12
                                have nc13 := (t84.col b13 k13.lt).trans nc13
                                have nc55 := (t84.col b55 k55.lt).trans nc55
                                have kp84 := hX.ex.vl.kC
                                replace k8 := k8.ch t84.go.ch (by intro hm; (have e0 := hm); omega)
                                replace k12 := k12.ch t84.go.ch (by intro hm; (have e0 := hm); omega)
                                replace k13 := k13.ch t84.go.ch (by intro hm; (have e0 := hm); omega)
                                replace k55 := k55.ch t84.go.ch (by intro hm; (have e0 := hm); omega)
                                replace hX := (hX.ut t84 ok84 js84)
                                replace U := U.cc t84.go.ch (by intro b hb; exact .inl trivial)
                                have cq9 := SU.ch.size
                                replace SU := SU.xc t84 kp84 (hX.ex.vl.c1 hX.ex.lx.pS rfl) (by intro b hlt hb; have h9 := cq b hlt; have e0 := hb; first | omega | (dsimp only at e0; omega))
                                replace cq := cq_step cq t84.col cq9
                                refine ⟨.inr SU, ?_⟩
                                refine p_gstep (j := 33) (t := 102) (by exact rfl) (by exact rfl) (by exact rfl) (et (gS rfl (gS rfl (gS rfl (gS rfl (gS rfl (gS rfl g0)))))) rfl) rfl (y_not (et g0 rfl)) ?_
                                refine p_gstep (j := 30) (t := 99) (by exact rfl) (by exact rfl) (by exact rfl) (et (gS rfl (gS rfl (gS rfl (gS rfl (gS rfl (gS rfl (gS rfl (gS rfl (gS rfl (gS rfl (gS rfl g0))))))))))) rfl) rfl (y_pickT (et (gS rfl (gS rfl (gS rfl (gS rfl (gS rfl (gS rfl (gS rfl g0))))))) rfl) (et g0 rfl)) ?_
                                refine p_step (by exact rfl) (y_pickF (et (gS rfl (gS rfl (gS rfl (gS rfl (gS rfl (gS rfl (gS rfl (gS rfl (gS rfl (gS rfl (gS rfl (gS rfl g0)))))))))))) rfl) (et g0 rfl)) ?_
                                refine p_nil ?_
                                refine hK60 _ _ ?_
                                refine fg3 0 2 111 (gS rfl (gS rfl (gS rfl (gS rfl (gS rfl (gS rfl (gS rfl (gS rfl (gS rfl (gS rfl (gS rfl (gS rfl (gS rfl (gS rfl (gS rfl (gS rfl (gS rfl (gS rfl (gS rfl (gS rfl (gS rfl (gS rfl (gS rfl (gS rfl (gS rfl (gS rfl (gS rfl (gS rfl (gS rfl (gS rfl (gS rfl (gS rfl (gS rfl (gS rfl (gS rfl (gS rfl (gS rfl (gS rfl (gS rfl (gS rfl (gS rfl (gS rfl (gS rfl (gS rfl (gS rfl (gS rfl (gS rfl (gS rfl (gS rfl (gS rfl (gS rfl (gS rfl (gS rfl g0))))))))))))))))))))))))))))))))))))))))))))))))))))) (gS rfl (gS rfl (gS rfl (gS rfl (gS rfl (gS rfl (gS rfl (gS rfl (gS rfl (gS rfl (gS rfl (gS rfl (gS rfl (gS rfl (gS rfl (gS rfl (gS rfl (gS rfl (gS rfl (gS rfl (gS rfl (gS rfl (gS rfl (gS rfl (gS rfl (gS rfl (gS rfl (gS rfl (gS rfl (gS rfl (gS rfl (gS rfl (gS rfl (gS rfl (gS rfl (gS rfl (gS rfl (gS rfl (gS rfl (gS rfl (gS rfl (gS rfl (gS rfl (gS rfl (gS rfl (gS rfl (gS rfl (gS rfl (gS rfl (gS rfl (gS rfl (gS rfl g0)))))))))))))))))))))))))))))))))))))))))))))))))))) g0 (fun g => ?_)
                                refine c_false (et g0 rfl) (by rfl) ?_
                                refine c_skip ?_
                                refine hK59 _ _ ?_
                                refine fg2 0 2 (gS rfl (gS rfl g0)) (gS rfl g0) (fun g => ?_)
                                exact (by
                                  refine c_region ?_
                                  refine l_step (y_moveV (et (gS rfl g0) rfl)) ?_
                                  refine l_step (y_moveV (et (gS rfl g0) rfl)) ?_
                                  refine l_step (y_bld bN bld65_z) ?_
                                  replace hX := hX.done (W := { s1.now with refund := s1.now.refund - (sMinus (triAt s.start f.self (argN f.stack 0)) (slotAt (acctAt s.now.accts f.self).slots (argN f.stack 0)) (argN f.stack 1)) + (sPlus (triAt s.start f.self (argN f.stack 0)) (slotAt (acctAt s.now.accts f.self).slots (argN f.stack 0)) (argN f.stack 1)), accts := putA s1.now.accts (setSlots (acctAt s1.now.accts f.self) (putS (acctAt s1.now.accts f.self).slots (argN f.stack 0) (argN f.stack 1))) }) (c' := c') (ay_slot { s1.now with refund := s1.now.refund - (sMinus (triAt s.start f.self (argN f.stack 0)) (slotAt (acctAt s.now.accts f.self).slots (argN f.stack 0)) (argN f.stack 1)) + (sPlus (triAt s.start f.self (argN f.stack 0)) (slotAt (acctAt s.now.accts f.self).slots (argN f.stack 0)) (argN f.stack 1)) } f.self (argN f.stack 0) (argN f.stack 1)) (by omega) (by show s1.now.refund - (sMinus (triAt s.start f.self (argN f.stack 0)) (slotAt (acctAt s.now.accts f.self).slots (argN f.stack 0)) (argN f.stack 1)) + (sPlus (triAt s.start f.self (argN f.stack 0)) (slotAt (acctAt s.now.accts f.self).slots (argN f.stack 0)) (argN f.stack 1)) + 200 * c' ≤ s1.now.refund + 200 * c1; omega)
                                  refine l_eff (e_callV cal_259 (aC (et (gS rfl (gS rfl g0)) rfl) (aC (et (gS rfl g0) rfl) (aC (v := .int .u16 ((2 : Nat) : Int)) rfl (aC rfl (aC (et g0 rfl) (aC (v := .int .u16 ((1 : Nat) : Int)) rfl aN)))))) (m_settle0 hX.ex hsf hph1 rfl 2 0 1 (by omega) (by decide) (by omega))) (fun v86 w86 h86 => ?_)
                                  obtain ⟨rfl, cs86, y86⟩ := h86
                                  replace k8 := k8.ch y86.et.go.ch (by intro hm; (have e0 := hm); omega)
                                  replace k12 := k12.ch y86.et.go.ch (by intro hm; (have e0 := hm); omega)
                                  replace k13 := k13.ch y86.et.go.ch (by intro hm; (have e0 := hm); omega)
                                  replace k55 := k55.ch y86.et.go.ch (by intro hm; (have e0 := hm); omega)
                                  replace hX := hX.trans y86
                                  replace U := U.cc y86.et.go.ch (by intro b hb; exact .inl trivial)
                                  refine l_nil ?_
                                  refine end0 rfl ?_
                                  rw [hs1] at hX
                                  exact ⟨rfl, _, _, _, hX⟩)
                              · skip
                                have hp9 : (sPlus (triAt s.start f.self (argN f.stack 0)) (slotAt (acctAt s.now.accts f.self).slots (argN f.stack 0)) (argN f.stack 1)) = 0 := by have := of_decide_eq_false q83; omega
                                replace hX := hX.ut0 hp9
                                refine p_gskip (j := 33) (t := 102) (by exact rfl) (by exact rfl) (by exact rfl) (et g0 rfl) rfl rfl ?_
                                refine p_gskip (j := 33) (t := 102) (by exact rfl) (by exact rfl) (by exact rfl) (et (gS rfl g0) rfl) rfl rfl ?_
                                refine p_gskip (j := 33) (t := 102) (by exact rfl) (by exact rfl) (by exact rfl) (et (gS rfl (gS rfl g0)) rfl) rfl rfl ?_
                                refine p_gskip (j := 33) (t := 102) (by exact rfl) (by exact rfl) (by exact rfl) (et (gS rfl (gS rfl (gS rfl g0))) rfl) rfl rfl ?_
                                refine p_gskip (j := 33) (t := 102) (by exact rfl) (by exact rfl) (by exact rfl) (et (gS rfl (gS rfl (gS rfl (gS rfl g0)))) rfl) rfl rfl ?_
                                refine p_geskip (j := 33) (t := 102) (by exact rfl) (by exact rfl) (by exact rfl) (et (gS rfl (gS rfl (gS rfl (gS rfl (gS rfl g0))))) rfl) rfl rfl ⟨.inr SU, ?_⟩
                                refine p_gskip (j := 33) (t := 102) (by exact rfl) (by exact rfl) (by exact rfl) (et (gS rfl (gS rfl (gS rfl (gS rfl (gS rfl (gS rfl g0)))))) rfl) rfl rfl ?_
                                refine p_gstep (j := 30) (t := 99) (by exact rfl) (by exact rfl) (by exact rfl) (et (gS rfl (gS rfl (gS rfl (gS rfl (gS rfl (gS rfl (gS rfl (gS rfl (gS rfl (gS rfl (gS rfl g0))))))))))) rfl) rfl (y_pickF (et (gS rfl (gS rfl (gS rfl (gS rfl (gS rfl (gS rfl (gS rfl g0))))))) rfl) rfl) ?_
                                refine p_step (by exact rfl) (y_pickF (et (gS rfl (gS rfl (gS rfl (gS rfl (gS rfl (gS rfl (gS rfl (gS rfl (gS rfl (gS rfl (gS rfl (gS rfl g0)))))))))))) rfl) (et g0 rfl)) ?_
                                refine p_nil ?_
                                refine hK60 _ _ ?_
                                refine fg3 0 2 111 (gS rfl (gS rfl (gS rfl (gS rfl (gS rfl (gS rfl (gS rfl (gS rfl (gS rfl (gS rfl (gS rfl (gS rfl (gS rfl (gS rfl (gS rfl (gS rfl (gS rfl (gS rfl (gS rfl (gS rfl (gS rfl (gS rfl (gS rfl (gS rfl (gS rfl (gS rfl (gS rfl (gS rfl (gS rfl (gS rfl (gS rfl (gS rfl (gS rfl (gS rfl (gS rfl (gS rfl (gS rfl (gS rfl (gS rfl (gS rfl (gS rfl (gS rfl (gS rfl (gS rfl (gS rfl (gS rfl (gS rfl (gS rfl (gS rfl (gS rfl (gS rfl (gS rfl (gS rfl g0))))))))))))))))))))))))))))))))))))))))))))))))))))) (gS rfl (gS rfl (gS rfl (gS rfl (gS rfl (gS rfl (gS rfl (gS rfl (gS rfl (gS rfl (gS rfl (gS rfl (gS rfl (gS rfl (gS rfl (gS rfl (gS rfl (gS rfl (gS rfl (gS rfl (gS rfl (gS rfl (gS rfl (gS rfl (gS rfl (gS rfl (gS rfl (gS rfl (gS rfl (gS rfl (gS rfl (gS rfl (gS rfl (gS rfl (gS rfl (gS rfl (gS rfl (gS rfl (gS rfl (gS rfl (gS rfl (gS rfl (gS rfl (gS rfl (gS rfl (gS rfl (gS rfl (gS rfl (gS rfl (gS rfl (gS rfl (gS rfl g0)))))))))))))))))))))))))))))))))))))))))))))))))))) g0 (fun g => ?_)
                                refine c_false (et g0 rfl) rfl ?_
                                refine c_skip ?_
                                refine hK59 _ _ ?_
                                refine fg2 0 2 (gS rfl (gS rfl g0)) (gS rfl g0) (fun g => ?_)
                                exact (by
                                  refine c_region ?_
                                  refine l_step (y_moveV (et (gS rfl g0) rfl)) ?_
                                  refine l_step (y_moveV (et (gS rfl g0) rfl)) ?_
                                  refine l_step (y_bld bN bld65_z) ?_
                                  replace hX := hX.done (W := { s1.now with refund := s1.now.refund - (sMinus (triAt s.start f.self (argN f.stack 0)) (slotAt (acctAt s.now.accts f.self).slots (argN f.stack 0)) (argN f.stack 1)) + (sPlus (triAt s.start f.self (argN f.stack 0)) (slotAt (acctAt s.now.accts f.self).slots (argN f.stack 0)) (argN f.stack 1)), accts := putA s1.now.accts (setSlots (acctAt s1.now.accts f.self) (putS (acctAt s1.now.accts f.self).slots (argN f.stack 0) (argN f.stack 1))) }) (c' := c') (ay_slot { s1.now with refund := s1.now.refund - (sMinus (triAt s.start f.self (argN f.stack 0)) (slotAt (acctAt s.now.accts f.self).slots (argN f.stack 0)) (argN f.stack 1)) + (sPlus (triAt s.start f.self (argN f.stack 0)) (slotAt (acctAt s.now.accts f.self).slots (argN f.stack 0)) (argN f.stack 1)) } f.self (argN f.stack 0) (argN f.stack 1)) (by omega) (by show s1.now.refund - (sMinus (triAt s.start f.self (argN f.stack 0)) (slotAt (acctAt s.now.accts f.self).slots (argN f.stack 0)) (argN f.stack 1)) + (sPlus (triAt s.start f.self (argN f.stack 0)) (slotAt (acctAt s.now.accts f.self).slots (argN f.stack 0)) (argN f.stack 1)) + 200 * c' ≤ s1.now.refund + 200 * c1; omega)
                                  refine l_eff (e_callV cal_259 (aC (et (gS rfl (gS rfl g0)) rfl) (aC (et (gS rfl g0) rfl) (aC (v := .int .u16 ((2 : Nat) : Int)) rfl (aC rfl (aC (et g0 rfl) (aC (v := .int .u16 ((1 : Nat) : Int)) rfl aN)))))) (m_settle0 hX.ex hsf hph1 rfl 2 0 1 (by omega) (by decide) (by omega))) (fun v88 w88 h88 => ?_)
                                  obtain ⟨rfl, cs88, y88⟩ := h88
                                  replace k8 := k8.ch y88.et.go.ch (by intro hm; (have e0 := hm); omega)
                                  replace k12 := k12.ch y88.et.go.ch (by intro hm; (have e0 := hm); omega)
                                  replace k13 := k13.ch y88.et.go.ch (by intro hm; (have e0 := hm); omega)
                                  replace k55 := k55.ch y88.et.go.ch (by intro hm; (have e0 := hm); omega)
                                  replace hX := hX.trans y88
                                  replace U := U.cc y88.et.go.ch (by intro b hb; exact .inl trivial)
                                  refine l_nil ?_
                                  refine end0 rfl ?_
                                  rw [hs1] at hX
                                  exact ⟨rfl, _, _, _, hX⟩)
                          · skip
                            have hm9 : (sMinus (triAt s.start f.self (argN f.stack 0)) (slotAt (acctAt s.now.accts f.self).slots (argN f.stack 0)) (argN f.stack 1)) = 0 := by have := of_decide_eq_false q80; omega
                            replace hX := hX.dn0 hm9
                            refine p_gskip (j := 20) (t := 89) (by exact rfl) (by exact rfl) (by exact rfl) (et g0 rfl) rfl rfl ?_
                            refine p_gskip (j := 20) (t := 89) (by exact rfl) (by exact rfl) (by exact rfl) (et (gS rfl g0) rfl) rfl rfl ?_
                            refine p_gskip (j := 20) (t := 89) (by exact rfl) (by exact rfl) (by exact rfl) (et (gS rfl (gS rfl g0)) rfl) rfl rfl ?_
                            refine p_gskip (j := 20) (t := 89) (by exact rfl) (by exact rfl) (by exact rfl) (et (gS rfl (gS rfl (gS rfl g0))) rfl) rfl rfl ?_
                            refine p_gskip (j := 20) (t := 89) (by exact rfl) (by exact rfl) (by exact rfl) (et (gS rfl (gS rfl (gS rfl (gS rfl g0)))) rfl) rfl rfl ?_
                            refine p_geskip (j := 20) (t := 89) (by exact rfl) (by exact rfl) (by exact rfl) (et (gS rfl (gS rfl (gS rfl (gS rfl (gS rfl g0))))) rfl) rfl rfl ⟨.inr SU, ?_⟩
                            refine p_gskip (j := 20) (t := 89) (by exact rfl) (by exact rfl) (by exact rfl) (et (gS rfl (gS rfl (gS rfl (gS rfl (gS rfl (gS rfl g0)))))) rfl) rfl rfl ?_
                            refine p_gstep (j := 17) (t := 86) (by exact rfl) (by exact rfl) (by exact rfl) (et (gS rfl (gS rfl (gS rfl (gS rfl (gS rfl (gS rfl (gS rfl (gS rfl (gS rfl (gS rfl (gS rfl g0))))))))))) rfl) rfl (y_pickF (et (gS rfl (gS rfl (gS rfl (gS rfl (gS rfl (gS rfl (gS rfl g0))))))) rfl) rfl) ?_
                            refine p_step (by exact rfl) (y_pickF (et (gS rfl (gS rfl (gS rfl (gS rfl (gS rfl (gS rfl (gS rfl (gS rfl (gS rfl (gS rfl (gS rfl (gS rfl g0)))))))))))) rfl) (et g0 rfl)) ?_
                            refine p_step (by exact rfl) (y_moveV (et g0 rfl)) ?_
                            refine p_gstep (j := 30) (t := 99) (by exact rfl) (by exact rfl) (by exact rfl) (et g0 rfl) rfl (y_moveV (et (gS rfl (gS rfl (gS rfl (gS rfl (gS rfl (gS rfl (gS rfl (gS rfl (gS rfl (gS rfl (gS rfl (gS rfl (gS rfl (gS rfl (gS rfl (gS rfl (gS rfl (gS rfl (gS rfl (gS rfl (gS rfl (gS rfl (gS rfl (gS rfl (gS rfl (gS rfl (gS rfl (gS rfl (gS rfl (gS rfl (gS rfl (gS rfl (gS rfl (gS rfl g0)))))))))))))))))))))))))))))))))) rfl)) ?_
                            refine p_gstep (j := 30) (t := 99) (by exact rfl) (by exact rfl) (by exact rfl) (et (gS rfl g0) rfl) rfl (y_gtr (et g0 rfl) rfl) ?_
                            refine p_gstep (j := 30) (t := 99) (by exact rfl) (by exact rfl) (by exact rfl) (et (gS rfl (gS rfl g0)) rfl) rfl (y_moveV (et g0 rfl)) ?_
                            refine gsplitP (i := 102) g0 (fun q89 => ?_) (fun q89 => ?_)
                            · skip
                              have hp9 : 0 < (sPlus (triAt s.start f.self (argN f.stack 0)) (slotAt (acctAt s.now.accts f.self).slots (argN f.stack 0)) (argN f.stack 1)) := by have := of_decide_eq_true q89; omega
                              refine p_gstep (j := 33) (t := 102) (by exact rfl) (by exact rfl) (by exact rfl) (et g0 rfl) rfl (y_moveV (et (gS rfl (gS rfl (gS rfl (gS rfl (gS rfl (gS rfl (gS rfl (gS rfl (gS rfl (gS rfl (gS rfl (gS rfl (gS rfl (gS rfl (gS rfl (gS rfl (gS rfl (gS rfl (gS rfl (gS rfl (gS rfl (gS rfl (gS rfl (gS rfl (gS rfl (gS rfl (gS rfl (gS rfl (gS rfl (gS rfl (gS rfl (gS rfl (gS rfl (gS rfl (gS rfl (gS rfl (gS rfl (gS rfl (gS rfl (gS rfl (gS rfl (gS rfl (gS rfl g0))))))))))))))))))))))))))))))))))))))))))) rfl)) ?_
                              refine p_gstep (j := 33) (t := 102) (by exact rfl) (by exact rfl) (by exact rfl) (et (gS rfl g0) rfl) rfl (y_nil (et g0 rfl)) ?_
                              refine p_gstep (j := 33) (t := 102) (by exact rfl) (by exact rfl) (by exact rfl) (et (gS rfl (gS rfl g0)) rfl) rfl (y_fld fld_75_0 (et g0 rfl)) ?_
                              refine p_gstep (j := 33) (t := 102) (by exact rfl) (by exact rfl) (by exact rfl) (et (gS rfl (gS rfl (gS rfl g0))) rfl) rfl (y_load1 one_59 (et g0 rfl) (atXLP)) ?_
                              refine p_gstep (j := 33) (t := 102) (by exact rfl) (by exact rfl) (by exact rfl) (et (gS rfl (gS rfl (gS rfl (gS rfl g0)))) rfl) rfl (y_moveV (et (gS rfl (gS rfl (gS rfl (gS rfl (gS rfl (gS rfl (gS rfl (gS rfl (gS rfl (gS rfl (gS rfl (gS rfl (gS rfl (gS rfl (gS rfl (gS rfl (gS rfl (gS rfl (gS rfl (gS rfl (gS rfl (gS rfl (gS rfl (gS rfl (gS rfl (gS rfl (gS rfl (gS rfl (gS rfl (gS rfl (gS rfl (gS rfl (gS rfl (gS rfl (gS rfl (gS rfl (gS rfl (gS rfl (gS rfl (gS rfl (gS rfl (gS rfl g0)))))))))))))))))))))))))))))))))))))))))) rfl)) ?_
                              refine p_geff (j := 33) (t := 102) (by exact rfl) (by exact rfl) (by exact rfl) (et (gS rfl (gS rfl (gS rfl (gS rfl (gS rfl g0))))) rfl) rfl (e_callV cal_308 (aC (et (gS rfl g0) rfl) (aC (et g0 rfl) aN)) (v_refundUp hX.ex.vl hX.ex.ok (sPlus (triAt s.start f.self (argN f.stack 0)) (slotAt (acctAt s.now.accts f.self).slots (argN f.stack 0)) (argN f.stack 1)) (by rw [hX.ref]; show s1.now.refund - (sMinus (triAt s.start f.self (argN f.stack 0)) (slotAt (acctAt s.now.accts f.self).slots (argN f.stack 0)) (argN f.stack 1)) + (sPlus (triAt s.start f.self (argN f.stack 0)) (slotAt (acctAt s.now.accts f.self).slots (argN f.stack 0)) (argN f.stack 1)) ≤ _; rw [hrf]; omega) (hX.jr (by decide)))) (fun v90 w90 h90 => ?_)
                              obtain ⟨rfl, cl90, cs90, V90, t90, ok90, js90⟩ := h90
                              have nc8 := (t90.col b8 k8.lt).trans nc8
                              have nc12 := (t90.col b12 k12.lt).trans nc12
                              have nc13 := (t90.col b13 k13.lt).trans nc13
                              have nc55 := (t90.col b55 k55.lt).trans nc55
                              have kp90 := hX.ex.vl.kC
                              replace k8 := k8.ch t90.go.ch (by intro hm; (have e0 := hm); omega)
                              replace k12 := k12.ch t90.go.ch (by intro hm; (have e0 := hm); omega)
                              replace k13 := k13.ch t90.go.ch (by intro hm; (have e0 := hm); omega)
                              replace k55 := k55.ch t90.go.ch (by intro hm; (have e0 := hm); omega)
                              replace hX := (hX.ut t90 ok90 js90)
                              replace U := U.cc t90.go.ch (by intro b hb; exact .inl trivial)
                              have cq9 := SU.ch.size
                              replace SU := SU.xc t90 kp90 (hX.ex.vl.c1 hX.ex.lx.pS rfl) (by intro b hlt hb; have h9 := cq b hlt; have e0 := hb; first | omega | (dsimp only at e0; omega))
                              replace cq := cq_step cq t90.col cq9
                              refine ⟨.inr SU, ?_⟩
                              refine p_gstep (j := 33) (t := 102) (by exact rfl) (by exact rfl) (by exact rfl) (et (gS rfl (gS rfl (gS rfl (gS rfl (gS rfl (gS rfl g0)))))) rfl) rfl (y_not (et g0 rfl)) ?_
                              refine p_gstep (j := 30) (t := 99) (by exact rfl) (by exact rfl) (by exact rfl) (et (gS rfl (gS rfl (gS rfl (gS rfl (gS rfl (gS rfl (gS rfl (gS rfl (gS rfl (gS rfl (gS rfl g0))))))))))) rfl) rfl (y_pickT (et (gS rfl (gS rfl (gS rfl (gS rfl (gS rfl (gS rfl (gS rfl g0))))))) rfl) (et g0 rfl)) ?_
                              refine p_step (by exact rfl) (y_pickF (et (gS rfl (gS rfl (gS rfl (gS rfl (gS rfl (gS rfl (gS rfl (gS rfl (gS rfl (gS rfl (gS rfl (gS rfl g0)))))))))))) rfl) (et g0 rfl)) ?_
                              refine p_nil ?_
                              refine hK60 _ _ ?_
                              refine fg3 0 2 111 (gS rfl (gS rfl (gS rfl (gS rfl (gS rfl (gS rfl (gS rfl (gS rfl (gS rfl (gS rfl (gS rfl (gS rfl (gS rfl (gS rfl (gS rfl (gS rfl (gS rfl (gS rfl (gS rfl (gS rfl (gS rfl (gS rfl (gS rfl (gS rfl (gS rfl (gS rfl (gS rfl (gS rfl (gS rfl (gS rfl (gS rfl (gS rfl (gS rfl (gS rfl (gS rfl (gS rfl (gS rfl (gS rfl (gS rfl (gS rfl (gS rfl (gS rfl (gS rfl (gS rfl (gS rfl (gS rfl (gS rfl (gS rfl (gS rfl (gS rfl (gS rfl (gS rfl g0)))))))))))))))))))))))))))))))))))))))))))))))))))) (gS rfl (gS rfl (gS rfl (gS rfl (gS rfl (gS rfl (gS rfl (gS rfl (gS rfl (gS rfl (gS rfl (gS rfl (gS rfl (gS rfl (gS rfl (gS rfl (gS rfl (gS rfl (gS rfl (gS rfl (gS rfl (gS rfl (gS rfl (gS rfl (gS rfl (gS rfl (gS rfl (gS rfl (gS rfl (gS rfl (gS rfl (gS rfl (gS rfl (gS rfl (gS rfl (gS rfl (gS rfl (gS rfl (gS rfl (gS rfl (gS rfl (gS rfl (gS rfl (gS rfl (gS rfl (gS rfl (gS rfl (gS rfl (gS rfl (gS rfl (gS rfl g0))))))))))))))))))))))))))))))))))))))))))))))))))) g0 (fun g => ?_)
                              refine c_false (et g0 rfl) (by rfl) ?_
                              refine c_skip ?_
                              refine hK59 _ _ ?_
                              refine fg2 0 2 (gS rfl (gS rfl g0)) (gS rfl g0) (fun g => ?_)
                              exact (by
                                refine c_region ?_
                                refine l_step (y_moveV (et (gS rfl g0) rfl)) ?_
                                refine l_step (y_moveV (et (gS rfl g0) rfl)) ?_
                                refine l_step (y_bld bN bld65_z) ?_
                                replace hX := hX.done (W := { s1.now with refund := s1.now.refund - (sMinus (triAt s.start f.self (argN f.stack 0)) (slotAt (acctAt s.now.accts f.self).slots (argN f.stack 0)) (argN f.stack 1)) + (sPlus (triAt s.start f.self (argN f.stack 0)) (slotAt (acctAt s.now.accts f.self).slots (argN f.stack 0)) (argN f.stack 1)), accts := putA s1.now.accts (setSlots (acctAt s1.now.accts f.self) (putS (acctAt s1.now.accts f.self).slots (argN f.stack 0) (argN f.stack 1))) }) (c' := c') (ay_slot { s1.now with refund := s1.now.refund - (sMinus (triAt s.start f.self (argN f.stack 0)) (slotAt (acctAt s.now.accts f.self).slots (argN f.stack 0)) (argN f.stack 1)) + (sPlus (triAt s.start f.self (argN f.stack 0)) (slotAt (acctAt s.now.accts f.self).slots (argN f.stack 0)) (argN f.stack 1)) } f.self (argN f.stack 0) (argN f.stack 1)) (by omega) (by show s1.now.refund - (sMinus (triAt s.start f.self (argN f.stack 0)) (slotAt (acctAt s.now.accts f.self).slots (argN f.stack 0)) (argN f.stack 1)) + (sPlus (triAt s.start f.self (argN f.stack 0)) (slotAt (acctAt s.now.accts f.self).slots (argN f.stack 0)) (argN f.stack 1)) + 200 * c' ≤ s1.now.refund + 200 * c1; omega)
                                refine l_eff (e_callV cal_259 (aC (et (gS rfl (gS rfl g0)) rfl) (aC (et (gS rfl g0) rfl) (aC (v := .int .u16 ((2 : Nat) : Int)) rfl (aC rfl (aC (et g0 rfl) (aC (v := .int .u16 ((1 : Nat) : Int)) rfl aN)))))) (m_settle0 hX.ex hsf hph1 rfl 2 0 1 (by omega) (by decide) (by omega))) (fun v92 w92 h92 => ?_)
                                obtain ⟨rfl, cs92, y92⟩ := h92
                                replace k8 := k8.ch y92.et.go.ch (by intro hm; (have e0 := hm); omega)
                                replace k12 := k12.ch y92.et.go.ch (by intro hm; (have e0 := hm); omega)
                                replace k13 := k13.ch y92.et.go.ch (by intro hm; (have e0 := hm); omega)
                                replace k55 := k55.ch y92.et.go.ch (by intro hm; (have e0 := hm); omega)
                                replace hX := hX.trans y92
                                replace U := U.cc y92.et.go.ch (by intro b hb; exact .inl trivial)
                                refine l_nil ?_
                                refine end0 rfl ?_
                                rw [hs1] at hX
                                exact ⟨rfl, _, _, _, hX⟩)
                            · skip
                              have hp9 : (sPlus (triAt s.start f.self (argN f.stack 0)) (slotAt (acctAt s.now.accts f.self).slots (argN f.stack 0)) (argN f.stack 1)) = 0 := by have := of_decide_eq_false q89; omega
                              replace hX := hX.ut0 hp9
                              refine p_gskip (j := 33) (t := 102) (by exact rfl) (by exact rfl) (by exact rfl) (et g0 rfl) rfl rfl ?_
                              refine p_gskip (j := 33) (t := 102) (by exact rfl) (by exact rfl) (by exact rfl) (et (gS rfl g0) rfl) rfl rfl ?_
                              refine p_gskip (j := 33) (t := 102) (by exact rfl) (by exact rfl) (by exact rfl) (et (gS rfl (gS rfl g0)) rfl) rfl rfl ?_
                              refine p_gskip (j := 33) (t := 102) (by exact rfl) (by exact rfl) (by exact rfl) (et (gS rfl (gS rfl (gS rfl g0))) rfl) rfl rfl ?_
                              refine p_gskip (j := 33) (t := 102) (by exact rfl) (by exact rfl) (by exact rfl) (et (gS rfl (gS rfl (gS rfl (gS rfl g0)))) rfl) rfl rfl ?_
                              refine p_geskip (j := 33) (t := 102) (by exact rfl) (by exact rfl) (by exact rfl) (et (gS rfl (gS rfl (gS rfl (gS rfl (gS rfl g0))))) rfl) rfl rfl ⟨.inr SU, ?_⟩
                              refine p_gskip (j := 33) (t := 102) (by exact rfl) (by exact rfl) (by exact rfl) (et (gS rfl (gS rfl (gS rfl (gS rfl (gS rfl (gS rfl g0)))))) rfl) rfl rfl ?_
                              refine p_gstep (j := 30) (t := 99) (by exact rfl) (by exact rfl) (by exact rfl) (et (gS rfl (gS rfl (gS rfl (gS rfl (gS rfl (gS rfl (gS rfl (gS rfl (gS rfl (gS rfl (gS rfl g0))))))))))) rfl) rfl (y_pickF (et (gS rfl (gS rfl (gS rfl (gS rfl (gS rfl (gS rfl (gS rfl g0))))))) rfl) rfl) ?_
                              refine p_step (by exact rfl) (y_pickF (et (gS rfl (gS rfl (gS rfl (gS rfl (gS rfl (gS rfl (gS rfl (gS rfl (gS rfl (gS rfl (gS rfl (gS rfl g0)))))))))))) rfl) (et g0 rfl)) ?_
                              refine p_nil ?_
                              refine hK60 _ _ ?_
                              refine fg3 0 2 111 (gS rfl (gS rfl (gS rfl (gS rfl (gS rfl (gS rfl (gS rfl (gS rfl (gS rfl (gS rfl (gS rfl (gS rfl (gS rfl (gS rfl (gS rfl (gS rfl (gS rfl (gS rfl (gS rfl (gS rfl (gS rfl (gS rfl (gS rfl (gS rfl (gS rfl (gS rfl (gS rfl (gS rfl (gS rfl (gS rfl (gS rfl (gS rfl (gS rfl (gS rfl (gS rfl (gS rfl (gS rfl (gS rfl (gS rfl (gS rfl (gS rfl (gS rfl (gS rfl (gS rfl (gS rfl (gS rfl (gS rfl (gS rfl (gS rfl (gS rfl (gS rfl (gS rfl g0)))))))))))))))))))))))))))))))))))))))))))))))))))) (gS rfl (gS rfl (gS rfl (gS rfl (gS rfl (gS rfl (gS rfl (gS rfl (gS rfl (gS rfl (gS rfl (gS rfl (gS rfl (gS rfl (gS rfl (gS rfl (gS rfl (gS rfl (gS rfl (gS rfl (gS rfl (gS rfl (gS rfl (gS rfl (gS rfl (gS rfl (gS rfl (gS rfl (gS rfl (gS rfl (gS rfl (gS rfl (gS rfl (gS rfl (gS rfl (gS rfl (gS rfl (gS rfl (gS rfl (gS rfl (gS rfl (gS rfl (gS rfl (gS rfl (gS rfl (gS rfl (gS rfl (gS rfl (gS rfl (gS rfl (gS rfl g0))))))))))))))))))))))))))))))))))))))))))))))))))) g0 (fun g => ?_)
                              refine c_false (et g0 rfl) rfl ?_
                              refine c_skip ?_
                              refine hK59 _ _ ?_
                              refine fg2 0 2 (gS rfl (gS rfl g0)) (gS rfl g0) (fun g => ?_)
                              exact (by
                                refine c_region ?_
                                refine l_step (y_moveV (et (gS rfl g0) rfl)) ?_
                                refine l_step (y_moveV (et (gS rfl g0) rfl)) ?_
                                refine l_step (y_bld bN bld65_z) ?_
                                replace hX := hX.done (W := { s1.now with refund := s1.now.refund - (sMinus (triAt s.start f.self (argN f.stack 0)) (slotAt (acctAt s.now.accts f.self).slots (argN f.stack 0)) (argN f.stack 1)) + (sPlus (triAt s.start f.self (argN f.stack 0)) (slotAt (acctAt s.now.accts f.self).slots (argN f.stack 0)) (argN f.stack 1)), accts := putA s1.now.accts (setSlots (acctAt s1.now.accts f.self) (putS (acctAt s1.now.accts f.self).slots (argN f.stack 0) (argN f.stack 1))) }) (c' := c') (ay_slot { s1.now with refund := s1.now.refund - (sMinus (triAt s.start f.self (argN f.stack 0)) (slotAt (acctAt s.now.accts f.self).slots (argN f.stack 0)) (argN f.stack 1)) + (sPlus (triAt s.start f.self (argN f.stack 0)) (slotAt (acctAt s.now.accts f.self).slots (argN f.stack 0)) (argN f.stack 1)) } f.self (argN f.stack 0) (argN f.stack 1)) (by omega) (by show s1.now.refund - (sMinus (triAt s.start f.self (argN f.stack 0)) (slotAt (acctAt s.now.accts f.self).slots (argN f.stack 0)) (argN f.stack 1)) + (sPlus (triAt s.start f.self (argN f.stack 0)) (slotAt (acctAt s.now.accts f.self).slots (argN f.stack 0)) (argN f.stack 1)) + 200 * c' ≤ s1.now.refund + 200 * c1; omega)
                                refine l_eff (e_callV cal_259 (aC (et (gS rfl (gS rfl g0)) rfl) (aC (et (gS rfl g0) rfl) (aC (v := .int .u16 ((2 : Nat) : Int)) rfl (aC rfl (aC (et g0 rfl) (aC (v := .int .u16 ((1 : Nat) : Int)) rfl aN)))))) (m_settle0 hX.ex hsf hph1 rfl 2 0 1 (by omega) (by decide) (by omega))) (fun v94 w94 h94 => ?_)
                                obtain ⟨rfl, cs94, y94⟩ := h94
                                replace k8 := k8.ch y94.et.go.ch (by intro hm; (have e0 := hm); omega)
                                replace k12 := k12.ch y94.et.go.ch (by intro hm; (have e0 := hm); omega)
                                replace k13 := k13.ch y94.et.go.ch (by intro hm; (have e0 := hm); omega)
                                replace k55 := k55.ch y94.et.go.ch (by intro hm; (have e0 := hm); omega)
                                replace hX := hX.trans y94
                                replace U := U.cc y94.et.go.ch (by intro b hb; exact .inl trivial)
                                refine l_nil ?_
                                refine end0 rfl ?_
                                rw [hs1] at hX
                                exact ⟨rfl, _, _, _, hX⟩))))))
            · skip
              have hin9 : (f.self, (argN f.stack 0)) ∈ s.now.warmS := by simpa using q46
              obtain ⟨s1, hs1⟩ : ∃ s1 : YSt, s1 = { s with now := { s.now with warmS := withM s.now.warmS f.self (argN f.stack 0) } } := ⟨_, rfl⟩
              have e1 : s = s1 := by rw [hs1, withM_in hin9]
              replace hX := hX.slack hc1
              rw [e1] at hX
              have hsf : s1.frames = low ++ [f] := by rw [hs1]; exact hs
              have hph1 : s1.phase = 1 := by rw [hs1]; exact hp
              refine p_gskip (j := 2) (t := 34) (by exact rfl) (by exact rfl) (by exact rfl) (et g0 rfl) rfl rfl ?_
              refine p_gskip (j := 2) (t := 34) (by exact rfl) (by exact rfl) (by exact rfl) (et (gS rfl g0) rfl) rfl rfl ?_
              refine p_gskip (j := 2) (t := 34) (by exact rfl) (by exact rfl) (by exact rfl) (et (gS rfl (gS rfl g0)) rfl) rfl rfl ?_
              refine p_gskip (j := 2) (t := 34) (by exact rfl) (by exact rfl) (by exact rfl) (et (gS rfl (gS rfl (gS rfl g0))) rfl) rfl rfl ?_
              refine p_gskip (j := 2) (t := 34) (by exact rfl) (by exact rfl) (by exact rfl) (et (gS rfl (gS rfl (gS rfl (gS rfl g0)))) rfl) rfl rfl ?_
              refine p_gskip (j := 2) (t := 34) (by exact rfl) (by exact rfl) (by exact rfl) (et (gS rfl (gS rfl (gS rfl (gS rfl (gS rfl g0))))) rfl) rfl rfl ?_
              refine p_gskip (j := 2) (t := 34) (by exact rfl) (by exact rfl) (by exact rfl) (et (gS rfl (gS rfl (gS rfl (gS rfl (gS rfl (gS rfl g0)))))) rfl) rfl rfl ?_
              refine p_gskip (j := 2) (t := 34) (by exact rfl) (by exact rfl) (by exact rfl) (et (gS rfl (gS rfl (gS rfl (gS rfl (gS rfl (gS rfl (gS rfl g0))))))) rfl) rfl rfl ?_
              refine p_gskip (j := 2) (t := 34) (by exact rfl) (by exact rfl) (by exact rfl) (et (gS rfl (gS rfl (gS rfl (gS rfl (gS rfl (gS rfl (gS rfl (gS rfl g0)))))))) rfl) rfl rfl ?_
              refine p_geskip (j := 2) (t := 34) (by exact rfl) (by exact rfl) (by exact rfl) (et (gS rfl (gS rfl (gS rfl (gS rfl (gS rfl (gS rfl (gS rfl (gS rfl (gS rfl g0))))))))) rfl) rfl rfl ⟨.inr SU, ?_⟩
              refine p_gskip (j := 2) (t := 34) (by exact rfl) (by exact rfl) (by exact rfl) (et (gS rfl (gS rfl (gS rfl (gS rfl (gS rfl (gS rfl (gS rfl (gS rfl (gS rfl (gS rfl g0)))))))))) rfl) rfl rfl ?_
              refine p_step (by exact rfl) (y_pickF (et (gS rfl (gS rfl (gS rfl (gS rfl (gS rfl (gS rfl (gS rfl (gS rfl (gS rfl (gS rfl (gS rfl g0))))))))))) rfl) rfl) ?_
              refine p_nil ?_
              refine hK44 _ _ ?_
              refine fg7 0 2 3 4 5 6 46 (gS rfl (gS rfl (gS rfl (gS rfl (gS rfl (gS rfl (gS rfl (gS rfl (gS rfl (gS rfl (gS rfl (gS rfl (gS rfl (gS rfl (gS rfl (gS rfl (gS rfl (gS rfl (gS rfl (gS rfl (gS rfl g0))))))))))))))))))))) (gS rfl (gS rfl (gS rfl (gS rfl (gS rfl (gS rfl (gS rfl (gS rfl (gS rfl (gS rfl (gS rfl (gS rfl (gS rfl (gS rfl (gS rfl (gS rfl (gS rfl (gS rfl (gS rfl (gS rfl g0)))))))))))))))))))) (gS rfl (gS rfl (gS rfl (gS rfl (gS rfl (gS rfl (gS rfl (gS rfl (gS rfl (gS rfl (gS rfl (gS rfl (gS rfl (gS rfl (gS rfl (gS rfl (gS rfl (gS rfl (gS rfl g0))))))))))))))))))) (gS rfl (gS rfl (gS rfl (gS rfl (gS rfl (gS rfl (gS rfl (gS rfl (gS rfl (gS rfl (gS rfl (gS rfl (gS rfl (gS rfl (gS rfl (gS rfl (gS rfl (gS rfl g0)))))))))))))))))) (gS rfl (gS rfl (gS rfl (gS rfl (gS rfl (gS rfl (gS rfl (gS rfl (gS rfl (gS rfl (gS rfl (gS rfl (gS rfl (gS rfl (gS rfl (gS rfl (gS rfl g0))))))))))))))))) (gS rfl (gS rfl (gS rfl (gS rfl (gS rfl (gS rfl (gS rfl (gS rfl (gS rfl (gS rfl (gS rfl (gS rfl (gS rfl (gS rfl (gS rfl (gS rfl g0)))))))))))))))) g0 (fun g => ?_)
              refine c_false (et g0 rfl) rfl ?_
              refine c_skip ?_
              refine hK43 _ _ ?_
              refine fg6 0 2 3 4 5 6 (gS rfl (gS rfl (gS rfl (gS rfl (gS rfl (gS rfl g0)))))) (gS rfl (gS rfl (gS rfl (gS rfl (gS rfl g0))))) (gS rfl (gS rfl (gS rfl (gS rfl g0)))) (gS rfl (gS rfl (gS rfl g0))) (gS rfl (gS rfl g0)) (gS rfl g0) (fun g => ?_)
              refine c_seq (fun K96 hK96 => ?_)
              refine c_seq (fun K97 hK97 => ?_)
              exact (by
                refine c_region ?_
                refine l_step (y_moveV (et (gS rfl (gS rfl (gS rfl (gS rfl (gS rfl g0))))) rfl)) ?_
                refine l_eff (e_callV cal_108 (aC (et g0 rfl) aN) (m_opcode hX.ex hsf hph1)) (fun v98 w98 h98 => ?_)
                obtain ⟨rfl, u98⟩ := h98
                replace k8 := k8.up u98
                replace k12 := k12.up u98
                replace k13 := k13.up u98
                replace hX := hX.up u98
                replace U := U.tr u98
                refine l_step (y_eql (et g0 rfl) rfl) ?_
                refine l_nil ?_
                refine hK97 _ _ ?_
                refine fg7 0 2 3 4 5 6 51 (gS rfl (gS rfl (gS rfl (gS rfl (gS rfl (gS rfl (gS rfl (gS rfl g0)))))))) (gS rfl (gS rfl (gS rfl (gS rfl (gS rfl (gS rfl (gS rfl g0))))))) (gS rfl (gS rfl (gS rfl (gS rfl (gS rfl (gS rfl g0)))))) (gS rfl (gS rfl (gS rfl (gS rfl (gS rfl g0))))) (gS rfl (gS rfl (gS rfl (gS rfl g0)))) (gS rfl (gS rfl (gS rfl g0))) g0 (fun g => ?_)
                refine c_false (et g0 rfl) (by (exact decide_eq_false (by omega))) ?_
                refine c_skip ?_
                refine hK96 _ _ ?_
                refine fg6 0 2 3 4 5 6 (gS rfl (gS rfl (gS rfl (gS rfl (gS rfl (gS rfl g0)))))) (gS rfl (gS rfl (gS rfl (gS rfl (gS rfl g0))))) (gS rfl (gS rfl (gS rfl (gS rfl g0)))) (gS rfl (gS rfl (gS rfl g0))) (gS rfl (gS rfl g0)) (gS rfl g0) (fun g => ?_)
                refine c_seq (fun K100 hK100 => ?_)
                exact (by
                  refine c_region ?_
                  refine l_step (y_moveV (et (gS rfl (gS rfl (gS rfl (gS rfl (gS rfl g0))))) rfl)) ?_
                  refine l_step (y_moveV (et (gS rfl (gS rfl (gS rfl (gS rfl (gS rfl g0))))) rfl)) ?_
                  refine l_eff (e_callV cal_264 (aC (et (gS rfl g0) rfl) (aC (et g0 rfl) (aC (v := .int .i64 ((1 : Nat) : Int)) rfl aN))) (m_arg hX.ex hsf hph1 rfl 1 (by decide))) (fun v101 w101 h101 => ?_)
                  obtain ⟨rfl, u101⟩ := h101
                  replace k8 := k8.up u101
                  replace k12 := k12.up u101
                  replace k13 := k13.up u101
                  replace hX := hX.up u101
                  replace U := U.tr u101
                  have hnw4 := hX.ex.vl.new
                  refine l_eff (e_alloc zr_65) (fun v102 w102 h102 => ?_)
                  obtain ⟨b102, rfl, n102⟩ := h102
                  have d8_102 : b8 < b102 := Nat.lt_of_lt_of_le k8.lt n102.fresh
                  have d12_102 : b12 < b102 := Nat.lt_of_lt_of_le k12.lt n102.fresh
                  have d13_102 : b13 < b102 := Nat.lt_of_lt_of_le k13.lt n102.fresh
                  have f102 : w.heap.size ≤ b102 := Nat.le_trans U.size n102.fresh
                  replace k8 := k8.up n102.up
                  replace k12 := k12.up n102.up
                  replace k13 := k13.up n102.up
                  replace hX := hX.up n102.up
                  replace U := U.tr n102.up
                  have k102 := n102.blk
                  obtain ⟨zs102, hz102, k102⟩ : ∃ cs : Array Value, cs.size = 4 ∧ Blk w102 b102 cs := ⟨_, rfl, k102⟩
                  have nc102 := hnw4 b102 n102.fresh
                  refine l_effN (e_store sz_65 (et g0 rfl) (cellsV (et (gS rfl g0) rfl) rfl) rfl (by exact one_uL _) k102 (by (first | (rw [hz102]; exact Nat.le_refl _) | (rw [List.size_toArray, wL_len]; exact Nat.le_refl _)))) (fun v103 w103 h103 => ?_)
                  obtain ⟨rfl, x103⟩ := h103
                  replace k8 := k8.ch x103.ch (by omega)
                  replace k12 := k12.ch x103.ch (by omega)
                  replace k13 := k13.ch x103.ch (by omega)
                  replace hX := hX.ch x103.ch (by first | omega | (intro b hb; first | (subst hb; first | exact ⟨by omega, fun hh => by have := hfz.lt hh; omega, by omega⟩ | exact ⟨by omega, by assumption, by omega⟩) | (rcases hb with hb | hb <;> (subst hb; first | exact ⟨by omega, fun hh => by have := hfz.lt hh; omega, by omega⟩ | exact ⟨by omega, by assumption, by omega⟩))))
                  replace k102 := x103.blk.full (by first | (rw [hz102]; rfl) | (rw [List.size_toArray, wL_len, wL_len]))
                  replace U := U.st x103 (.inr f102)
                  refine l_nil ?_
                  refine hK100 _ _ ?_
                  refine fg7 0 2 3 4 5 6 7 (gS rfl (gS rfl (gS rfl (gS rfl (gS rfl (gS rfl (gS rfl (gS rfl (gS rfl g0))))))))) (gS rfl (gS rfl (gS rfl (gS rfl (gS rfl (gS rfl (gS rfl (gS rfl g0)))))))) (gS rfl (gS rfl (gS rfl (gS rfl (gS rfl (gS rfl (gS rfl g0))))))) (gS rfl (gS rfl (gS rfl (gS rfl (gS rfl (gS rfl g0)))))) (gS rfl (gS rfl (gS rfl (gS rfl (gS rfl g0))))) (gS rfl (gS rfl (gS rfl (gS rfl g0)))) g0 (fun g => ?_)
                  refine c_seq (fun K104 hK104 => ?_)
                  exact (by
                    refine c_region ?_
                    refine l_step (y_loadB agg_65 sz_65 (et (gS rfl (gS rfl g0)) rfl) rfl (at1B k13)) ?_
                    refine l_step (y_loadB agg_65 sz_65 (et (gS rfl (gS rfl (gS rfl (gS rfl g0)))) rfl) rfl (at1B k12)) ?_
                    refine l_step (y_loadB agg_65 sz_65 (et (gS rfl (gS rfl g0)) rfl) rfl (at1B k102)) ?_
                    refine l_step (y_moveV (et (gS rfl (gS rfl (gS rfl (gS rfl g0)))) rfl)) ?_
                    refine l_step (y_not (et g0 rfl)) ?_
                    refine l_eff (e_callV cal_305 (aC (et (gS rfl (gS rfl (gS rfl (gS rfl g0)))) rfl) (aC (et (gS rfl (gS rfl (gS rfl g0))) rfl) (aC (et (gS rfl (gS rfl g0)) rfl) (aC (et g0 rfl) aN)))) (mach_Sstore _ _ _ _ _ (hE.ogLt _ _) (hE.slLt _ _) (argN_lt hB _))) (fun v105 w105 h105 => ?_)
                    obtain ⟨rfl, u105⟩ := h105
                    replace k8 := k8.up u105
                    replace k12 := k12.up u105
                    replace k13 := k13.up u105
                    replace k102 := k102.up u105
                    replace hX := hX.up u105
                    replace U := U.tr u105
                    have hac : s1.now.accts = s.now.accts := by rw [hs1]
                    have hrf : s1.now.refund = s.now.refund := by rw [hs1]
                    have hap1 : s1.applied ≤ 4 := by rw [hs1]; exact hap
                    have hw9 : (f.self, (argN f.stack 0)) ∈ s1.now.warmS := by rw [hs1]; exact (mem_withM _ _ _ _).2 (.inl rfl)
                    have hro1 := hX.ex.room hap1
                    have hha1 := (hX.ex.px.has f (by rw [hsf]; simp)).1
                    have hhs1 := hX.ex.hasSW hw9
                    obtain ⟨n8, hn8, hR2⟩ := hX.ex.topF hsf
                    refine l_step (y_moveV (et g0 rfl)) ?_
                    refine l_step (y_ext (et g0 rfl) rfl) ?_
                    refine l_step (y_ext (et (gS rfl g0) rfl) rfl) ?_
                    refine l_step (y_ext (et (gS rfl (gS rfl g0)) rfl) rfl) ?_
                    refine l_step (y_assignV (et (gS rfl (gS rfl g0)) rfl)) ?_
                    refine l_step (y_assignV (et (gS rfl (gS rfl g0)) rfl)) ?_
                    refine l_step (y_assignV (et (gS rfl (gS rfl g0)) rfl)) ?_
                    refine l_nil ?_
                    refine hK104 _ _ ?_
                    refine fg7 0 2 3 4 7 9 10 (gS rfl (gS rfl (gS rfl (gS rfl (gS rfl (gS rfl (gS rfl (gS rfl (gS rfl (gS rfl (gS rfl (gS rfl (gS rfl (gS rfl (gS rfl (gS rfl (gS rfl (gS rfl (gS rfl g0))))))))))))))))))) (gS rfl (gS rfl (gS rfl (gS rfl (gS rfl (gS rfl (gS rfl (gS rfl (gS rfl (gS rfl (gS rfl (gS rfl (gS rfl (gS rfl (gS rfl (gS rfl (gS rfl (gS rfl g0)))))))))))))))))) (gS rfl (gS rfl (gS rfl (gS rfl (gS rfl (gS rfl (gS rfl (gS rfl (gS rfl (gS rfl (gS rfl (gS rfl (gS rfl (gS rfl (gS rfl (gS rfl (gS rfl g0))))))))))))))))) (gS rfl (gS rfl (gS rfl (gS rfl (gS rfl (gS rfl (gS rfl (gS rfl (gS rfl (gS rfl (gS rfl (gS rfl (gS rfl (gS rfl (gS rfl (gS rfl g0)))))))))))))))) (gS rfl (gS rfl (gS rfl (gS rfl (gS rfl (gS rfl (gS rfl (gS rfl (gS rfl (gS rfl (gS rfl (gS rfl (gS rfl g0))))))))))))) (gS rfl g0) g0 (fun g => ?_)
                    refine c_seq (fun K106 hK106 => ?_)
                    refine c_seq (fun K107 hK107 => ?_)
                    exact (by
                      refine c_draw (SXL _ bc _) 43 [(0, true), (1, true), (2, true), (3, true), (4, true), (5, true), (6, true), (7, true), (8, true), (9, true), (10, true), (11, true), (12, true), (13, true), (14, false), (15, true), (16, true), (17, true), (18, true), (19, true), (20, true), (21, true), (22, true), (23, true), (24, true), (25, true), (26, false), (27, true), (28, true), (29, true), (30, true), (31, true), (32, true), (33, true), (34, true), (35, true), (36, true), (37, true), (38, true), (39, false), (40, true), (41, true), (42, true)] (by kernel_rfl) (fun w108 hu => ⟨SXL.refl (hX.up hu), ?_⟩)
                      replace k8 := k8.up hu
                      replace k12 := k12.up hu
                      replace k13 := k13.up hu
                      replace k102 := k102.up hu
                      replace hX := hX.up hu
                      replace U := U.tr hu
                      have SU := SXL.refl hX
                      have cq := cq_refl hX
                      have hX_s := hX
                      have k8_s := k8
                      have k12_s := k12
                      have k13_s := k13
                      have k102_s := k102
                      refine p_step (by exact rfl) (y_loadB agg_65 sz_65 (et (gS rfl (gS rfl g0)) rfl) rfl (toL (atXB k102_s (by omega)))) ?_
                      refine p_step (by exact rfl) (y_loadB agg_65 sz_65 (et (gS rfl (gS rfl (gS rfl (gS rfl g0)))) rfl) rfl (toL (atXB k12_s (by omega)))) ?_
                      refine p_step (by exact rfl) (y_neqW (argN_lt hB _) (hE.slLt _ _) (et (gS rfl g0) rfl) (et g0 rfl)) ?_
                      refine p_step (by exact rfl) (y_moveV (et g0 rfl)) ?_
                      refine gsplitP (i := 72) g0 (fun q109 => ?_) (fun q109 => ?_)
                      · skip
                        skip
                        refine p_gstep (j := 3) (t := 72) (by exact rfl) (by exact rfl) (by exact rfl) (et g0 rfl) rfl (y_moveV (et (gS rfl (gS rfl (gS rfl (gS rfl (gS rfl (gS rfl (gS rfl (gS rfl (gS rfl (gS rfl (gS rfl g0))))))))))) rfl)) ?_
                        refine p_gstep (j := 3) (t := 72) (by exact rfl) (by exact rfl) (by exact rfl) (et (gS rfl g0) rfl) rfl (y_nil (et g0 rfl)) ?_
                        refine p_gstep (j := 3) (t := 72) (by exact rfl) (by exact rfl) (by exact rfl) (et (gS rfl (gS rfl g0)) rfl) rfl (y_fld fld_75_0 (et g0 rfl)) ?_
                        refine p_gstep (j := 3) (t := 72) (by exact rfl) (by exact rfl) (by exact rfl) (et (gS rfl (gS rfl (gS rfl g0))) rfl) rfl (y_load1 one_59 (et g0 rfl) (atXLP)) ?_
                        refine p_gstep (j := 3) (t := 72) (by exact rfl) (by exact rfl) (by exact rfl) (et (gS rfl (gS rfl (gS rfl (gS rfl g0)))) rfl) rfl (y_moveV (et (gS rfl (gS rfl (gS rfl (gS rfl (gS rfl (gS rfl (gS rfl (gS rfl (gS rfl (gS rfl (gS rfl (gS rfl (gS rfl (gS rfl g0)))))))))))))) rfl)) ?_
                        refine p_gstep (j := 3) (t := 72) (by exact rfl) (by exact rfl) (by exact rfl) (et (gS rfl (gS rfl (gS rfl (gS rfl (gS rfl g0))))) rfl) rfl (y_nil (et g0 rfl)) ?_
                        refine p_gstep (j := 3) (t := 72) (by exact rfl) (by exact rfl) (by exact rfl) (et (gS rfl (gS rfl (gS rfl (gS rfl (gS rfl (gS rfl g0)))))) rfl) rfl (y_fld fld_71_9 (et g0 rfl)) ?_
                        refine p_gstep (j := 3) (t := 72) (by exact rfl) (by exact rfl) (by exact rfl) (et (gS rfl (gS rfl (gS rfl (gS rfl (gS rfl (gS rfl (gS rfl g0))))))) rfl) rfl (y_loadR agg_25 sz_25 (et g0 rfl) (by rw [length_bL, length_be]) (atXLR hR2.r2 (by omega) (by rw [length_bL, length_be]; omega))) ?_
                        refine p_gstep (j := 3) (t := 72) (by exact rfl) (by exact rfl) (by exact rfl) (et (gS rfl (gS rfl (gS rfl (gS rfl (gS rfl (gS rfl (gS rfl (gS rfl g0)))))))) rfl) rfl (y_loadB agg_65 sz_65 (et (gS rfl (gS rfl (gS rfl (gS rfl (gS rfl (gS rfl (gS rfl (gS rfl (gS rfl (gS rfl (gS rfl (gS rfl (gS rfl (gS rfl (gS rfl (gS rfl (gS rfl g0))))))))))))))))) rfl) rfl (toL (atXB k8_s (by omega)))) ?_
                        refine p_gstep (j := 3) (t := 72) (by exact rfl) (by exact rfl) (by exact rfl) (et (gS rfl (gS rfl (gS rfl (gS rfl (gS rfl (gS rfl (gS rfl (gS rfl (gS rfl g0))))))))) rfl) rfl (y_loadB agg_65 sz_65 (et (gS rfl (gS rfl (gS rfl (gS rfl (gS rfl (gS rfl (gS rfl (gS rfl (gS rfl (gS rfl (gS rfl (gS rfl (gS rfl (gS rfl (gS rfl (gS rfl g0)))))))))))))))) rfl) rfl (toL (atXB k102_s (by omega)))) ?_
                        refine p_geff (j := 3) (t := 72) (by exact rfl) (by exact rfl) (by exact rfl) (et (gS rfl (gS rfl (gS rfl (gS rfl (gS rfl (gS rfl (gS rfl (gS rfl (gS rfl (gS rfl g0)))))))))) rfl) rfl (e_callV cal_306 (aC (et (gS rfl (gS rfl (gS rfl (gS rfl (gS rfl (gS rfl g0)))))) rfl) (aC (et (gS rfl (gS rfl g0)) rfl) (aC (et (gS rfl g0) rfl) (aC (et g0 rfl) aN)))) (v_store hX.ex.vl hX.ex.ok f.self (argN f.stack 0) hB.self (argN_lt hB _) (argN f.stack 1) (argN_lt hB _) 0 0 (.inl ⟨hha1, rfl⟩) (.inl ⟨hhs1, rfl⟩) hro1.j)) (fun v110 w110 h110 => ?_)
                        obtain ⟨rfl, cl110, cs110, V110, t110, ok110, js110⟩ := h110
                        have nc8 := (t110.col b8 k8.lt).trans nc8
                        have nc12 := (t110.col b12 k12.lt).trans nc12
                        have nc13 := (t110.col b13 k13.lt).trans nc13
                        have nc102 := (t110.col b102 k102.lt).trans nc102
                        have kp110 := hX.ex.vl.kC
                        replace k8 := k8.ch t110.go.ch (by intro hm; (have e0 := hm); omega)
                        replace k12 := k12.ch t110.go.ch (by intro hm; (have e0 := hm); omega)
                        replace k13 := k13.ch t110.go.ch (by intro hm; (have e0 := hm); omega)
                        replace k102 := k102.ch t110.go.ch (by intro hm; (have e0 := hm); omega)
                        replace hX := ((XD.start hX).step t110 ok110 js110)
                        replace U := U.cc t110.go.ch (by intro b hb; exact .inl trivial)
                        have cq9 := SU.ch.size
                        replace SU := SU.xc t110 kp110 (hX.ex.vl.c1 hX.ex.lx.pS rfl) (by intro b hlt hb; have h9 := cq b hlt; have e0 := hb; first | omega | (dsimp only at e0; omega))
                        replace cq := cq_step cq t110.col cq9
                        refine ⟨.inr SU, ?_⟩
                        refine p_gstep (j := 3) (t := 72) (by exact rfl) (by exact rfl) (by exact rfl) (et (gS rfl (gS rfl (gS rfl (gS rfl (gS rfl (gS rfl (gS rfl (gS rfl (gS rfl (gS rfl (gS rfl g0))))))))))) rfl) rfl (y_not (et g0 rfl)) ?_
                        refine p_step (by exact rfl) (y_pickT (et (gS rfl (gS rfl (gS rfl (gS rfl (gS rfl (gS rfl (gS rfl (gS rfl (gS rfl (gS rfl (gS rfl (gS rfl g0)))))))))))) rfl) (et g0 rfl)) ?_
                        refine p_step (by exact rfl) (y_moveV (et g0 rfl)) ?_
                        refine gsplitP (i := 86) g0 (fun q111 => ?_) (fun q111 => ?_)
                        · skip
                          cases q111
                        · skip
                          refine p_gstep (j := 17) (t := 86) (by exact rfl) (by exact rfl) (by exact rfl) (et g0 rfl) rfl (y_moveV (et (gS rfl (gS rfl (gS rfl (gS rfl (gS rfl (gS rfl (gS rfl (gS rfl (gS rfl (gS rfl (gS rfl (gS rfl (gS rfl (gS rfl (gS rfl (gS rfl (gS rfl (gS rfl (gS rfl (gS rfl g0)))))))))))))))))))) rfl)) ?_
                          refine p_gstep (j := 17) (t := 86) (by exact rfl) (by exact rfl) (by exact rfl) (et (gS rfl g0) rfl) rfl (y_gtr (et g0 rfl) rfl) ?_
                          refine p_gstep (j := 17) (t := 86) (by exact rfl) (by exact rfl) (by exact rfl) (et (gS rfl (gS rfl g0)) rfl) rfl (y_moveV (et g0 rfl)) ?_
                          refine gsplitP (i := 89) g0 (fun q112 => ?_) (fun q112 => ?_)
                          · skip
                            have hm9 : 0 < (sMinus (triAt s.start f.self (argN f.stack 0)) (slotAt (acctAt s.now.accts f.self).slots (argN f.stack 0)) (argN f.stack 1)) := by have := of_decide_eq_true q112; omega
                            refine p_gstep (j := 20) (t := 89) (by exact rfl) (by exact rfl) (by exact rfl) (et g0 rfl) rfl (y_moveV (et (gS rfl (gS rfl (gS rfl (gS rfl (gS rfl (gS rfl (gS rfl (gS rfl (gS rfl (gS rfl (gS rfl (gS rfl (gS rfl (gS rfl (gS rfl (gS rfl (gS rfl (gS rfl (gS rfl (gS rfl (gS rfl (gS rfl (gS rfl (gS rfl (gS rfl (gS rfl (gS rfl (gS rfl (gS rfl (gS rfl g0)))))))))))))))))))))))))))))) rfl)) ?_
                            refine p_gstep (j := 20) (t := 89) (by exact rfl) (by exact rfl) (by exact rfl) (et (gS rfl g0) rfl) rfl (y_nil (et g0 rfl)) ?_
                            refine p_gstep (j := 20) (t := 89) (by exact rfl) (by exact rfl) (by exact rfl) (et (gS rfl (gS rfl g0)) rfl) rfl (y_fld fld_75_0 (et g0 rfl)) ?_
                            refine p_gstep (j := 20) (t := 89) (by exact rfl) (by exact rfl) (by exact rfl) (et (gS rfl (gS rfl (gS rfl g0))) rfl) rfl (y_load1 one_59 (et g0 rfl) (atXLP)) ?_
                            refine p_gstep (j := 20) (t := 89) (by exact rfl) (by exact rfl) (by exact rfl) (et (gS rfl (gS rfl (gS rfl (gS rfl g0)))) rfl) rfl (y_moveV (et (gS rfl (gS rfl (gS rfl (gS rfl (gS rfl (gS rfl (gS rfl (gS rfl (gS rfl (gS rfl (gS rfl (gS rfl (gS rfl (gS rfl (gS rfl (gS rfl (gS rfl (gS rfl (gS rfl (gS rfl (gS rfl (gS rfl (gS rfl (gS rfl (gS rfl (gS rfl (gS rfl (gS rfl g0)))))))))))))))))))))))))))) rfl)) ?_
                            refine p_geff (j := 20) (t := 89) (by exact rfl) (by exact rfl) (by exact rfl) (et (gS rfl (gS rfl (gS rfl (gS rfl (gS rfl g0))))) rfl) rfl (e_callV cal_307 (aC (et (gS rfl g0) rfl) (aC (et g0 rfl) aN)) (v_refundDown hX.ex.vl hX.ex.ok (sMinus (triAt s.start f.self (argN f.stack 0)) (slotAt (acctAt s.now.accts f.self).slots (argN f.stack 0)) (argN f.stack 1)) (by rw [hX.ref]; show _ ≤ s1.now.refund; rw [hrf]; exact hok9) (hX.jr (by decide)))) (fun v113 w113 h113 => ?_)
                            obtain ⟨rfl, cl113, cs113, V113, t113, ok113, js113⟩ := h113
                            have nc8 := (t113.col b8 k8.lt).trans nc8
                            have nc12 := (t113.col b12 k12.lt).trans nc12
                            have nc13 := (t113.col b13 k13.lt).trans nc13
                            have nc102 := (t113.col b102 k102.lt).trans nc102
                            have kp113 := hX.ex.vl.kC
                            replace k8 := k8.ch t113.go.ch (by intro hm; (have e0 := hm); omega)
                            replace k12 := k12.ch t113.go.ch (by intro hm; (have e0 := hm); omega)
                            replace k13 := k13.ch t113.go.ch (by intro hm; (have e0 := hm); omega)
                            replace k102 := k102.ch t113.go.ch (by intro hm; (have e0 := hm); omega)
                            replace hX := (hX.dn t113 ok113 js113)
                            replace U := U.cc t113.go.ch (by intro b hb; exact .inl trivial)
                            have cq9 := SU.ch.size
                            replace SU := SU.xc t113 kp113 (hX.ex.vl.c1 hX.ex.lx.pS rfl) (by intro b hlt hb; have h9 := cq b hlt; have e0 := hb; first | omega | (dsimp only at e0; omega))
                            replace cq := cq_step cq t113.col cq9
                            refine ⟨.inr SU, ?_⟩
                            refine p_gstep (j := 20) (t := 89) (by exact rfl) (by exact rfl) (by exact rfl) (et (gS rfl (gS rfl (gS rfl (gS rfl (gS rfl (gS rfl g0)))))) rfl) rfl (y_not (et g0 rfl)) ?_
                            refine p_gstep (j := 17) (t := 86) (by exact rfl) (by exact rfl) (by exact rfl) (et (gS rfl (gS rfl (gS rfl (gS rfl (gS rfl (gS rfl (gS rfl (gS rfl (gS rfl (gS rfl (gS rfl g0))))))))))) rfl) rfl (y_pickT (et (gS rfl (gS rfl (gS rfl (gS rfl (gS rfl (gS rfl (gS rfl g0))))))) rfl) (et g0 rfl)) ?_
                            refine p_step (by exact rfl) (y_pickF (et (gS rfl (gS rfl (gS rfl (gS rfl (gS rfl (gS rfl (gS rfl (gS rfl (gS rfl (gS rfl (gS rfl (gS rfl g0)))))))))))) rfl) (et g0 rfl)) ?_
                            refine p_step (by exact rfl) (y_moveV (et g0 rfl)) ?_
                            refine gsplitP (i := 99) g0 (fun q114 => ?_) (fun q114 => ?_)
                            · skip
                              cases q114
                            · skip
                              refine p_gstep (j := 30) (t := 99) (by exact rfl) (by exact rfl) (by exact rfl) (et g0 rfl) rfl (y_moveV (et (gS rfl (gS rfl (gS rfl (gS rfl (gS rfl (gS rfl (gS rfl (gS rfl (gS rfl (gS rfl (gS rfl (gS rfl (gS rfl (gS rfl (gS rfl (gS rfl (gS rfl (gS rfl (gS rfl (gS rfl (gS rfl (gS rfl (gS rfl (gS rfl (gS rfl (gS rfl (gS rfl (gS rfl (gS rfl (gS rfl (gS rfl (gS rfl (gS rfl (gS rfl (gS rfl (gS rfl g0)))))))))))))))))))))))))))))))))))) rfl)) ?_
                              refine p_gstep (j := 30) (t := 99) (by exact rfl) (by exact rfl) (by exact rfl) (et (gS rfl g0) rfl) rfl (y_gtr (et g0 rfl) rfl) ?_
                              refine p_gstep (j := 30) (t := 99) (by exact rfl) (by exact rfl) (by exact rfl) (et (gS rfl (gS rfl g0)) rfl) rfl (y_moveV (et g0 rfl)) ?_
                              refine gsplitP (i := 102) g0 (fun q115 => ?_) (fun q115 => ?_)
                              · skip
                                have hp9 : 0 < (sPlus (triAt s.start f.self (argN f.stack 0)) (slotAt (acctAt s.now.accts f.self).slots (argN f.stack 0)) (argN f.stack 1)) := by have := of_decide_eq_true q115; omega
                                refine p_gstep (j := 33) (t := 102) (by exact rfl) (by exact rfl) (by exact rfl) (et g0 rfl) rfl (y_moveV (et (gS rfl (gS rfl (gS rfl (gS rfl (gS rfl (gS rfl (gS rfl (gS rfl (gS rfl (gS rfl (gS rfl (gS rfl (gS rfl (gS rfl (gS rfl (gS rfl (gS rfl (gS rfl (gS rfl (gS rfl (gS rfl (gS rfl (gS rfl (gS rfl (gS rfl (gS rfl (gS rfl (gS rfl (gS rfl (gS rfl (gS rfl (gS rfl (gS rfl (gS rfl (gS rfl (gS rfl (gS rfl (gS rfl (gS rfl (gS rfl (gS rfl (gS rfl (gS rfl (gS rfl (gS rfl g0))))))))))))))))))))))))))))))))))))))))))))) rfl)) ?_
                                refine p_gstep (j := 33) (t := 102) (by exact rfl) (by exact rfl) (by exact rfl) (et (gS rfl g0) rfl) rfl (y_nil (et g0 rfl)) ?_
                                refine p_gstep (j := 33) (t := 102) (by exact rfl) (by exact rfl) (by exact rfl) (et (gS rfl (gS rfl g0)) rfl) rfl (y_fld fld_75_0 (et g0 rfl)) ?_
                                refine p_gstep (j := 33) (t := 102) (by exact rfl) (by exact rfl) (by exact rfl) (et (gS rfl (gS rfl (gS rfl g0))) rfl) rfl (y_load1 one_59 (et g0 rfl) (atXLP)) ?_
                                refine p_gstep (j := 33) (t := 102) (by exact rfl) (by exact rfl) (by exact rfl) (et (gS rfl (gS rfl (gS rfl (gS rfl g0)))) rfl) rfl (y_moveV (et (gS rfl (gS rfl (gS rfl (gS rfl (gS rfl (gS rfl (gS rfl (gS rfl (gS rfl (gS rfl (gS rfl (gS rfl (gS rfl (gS rfl (gS rfl (gS rfl (gS rfl (gS rfl (gS rfl (gS rfl (gS rfl (gS rfl (gS rfl (gS rfl (gS rfl (gS rfl (gS rfl (gS rfl (gS rfl (gS rfl (gS rfl (gS rfl (gS rfl (gS rfl (gS rfl (gS rfl (gS rfl (gS rfl (gS rfl (gS rfl (gS rfl (gS rfl (gS rfl (gS rfl g0)))))))))))))))))))))))))))))))))))))))))))) rfl)) ?_
                                refine p_geff (j := 33) (t := 102) (by exact rfl) (by exact rfl) (by exact rfl) (et (gS rfl (gS rfl (gS rfl (gS rfl (gS rfl g0))))) rfl) rfl (e_callV cal_308 (aC (et (gS rfl g0) rfl) (aC (et g0 rfl) aN)) (v_refundUp hX.ex.vl hX.ex.ok (sPlus (triAt s.start f.self (argN f.stack 0)) (slotAt (acctAt s.now.accts f.self).slots (argN f.stack 0)) (argN f.stack 1)) (by rw [hX.ref]; show s1.now.refund - (sMinus (triAt s.start f.self (argN f.stack 0)) (slotAt (acctAt s.now.accts f.self).slots (argN f.stack 0)) (argN f.stack 1)) + (sPlus (triAt s.start f.self (argN f.stack 0)) (slotAt (acctAt s.now.accts f.self).slots (argN f.stack 0)) (argN f.stack 1)) ≤ _; rw [hrf]; omega) (hX.jr (by decide)))) (fun v116 w116 h116 => ?_)
                                obtain ⟨rfl, cl116, cs116, V116, t116, ok116, js116⟩ := h116
                                have nc8 := (t116.col b8 k8.lt).trans nc8
                                have nc12 := (t116.col b12 k12.lt).trans nc12
                                have nc13 := (t116.col b13 k13.lt).trans nc13
                                have nc102 := (t116.col b102 k102.lt).trans nc102
                                have kp116 := hX.ex.vl.kC
                                replace k8 := k8.ch t116.go.ch (by intro hm; (have e0 := hm); omega)
                                replace k12 := k12.ch t116.go.ch (by intro hm; (have e0 := hm); omega)
                                replace k13 := k13.ch t116.go.ch (by intro hm; (have e0 := hm); omega)
                                replace k102 := k102.ch t116.go.ch (by intro hm; (have e0 := hm); omega)
                                replace hX := (hX.ut t116 ok116 js116)
                                replace U := U.cc t116.go.ch (by intro b hb; exact .inl trivial)
                                have cq9 := SU.ch.size
                                replace SU := SU.xc t116 kp116 (hX.ex.vl.c1 hX.ex.lx.pS rfl) (by intro b hlt hb; have h9 := cq b hlt; have e0 := hb; first | omega | (dsimp only at e0; omega))
                                replace cq := cq_step cq t116.col cq9
                                refine ⟨.inr SU, ?_⟩
                                refine p_gstep (j := 33) (t := 102) (by exact rfl) (by exact rfl) (by exact rfl) (et (gS rfl (gS rfl (gS rfl (gS rfl (gS rfl (gS rfl g0)))))) rfl) rfl (y_not (et g0 rfl)) ?_
                                refine p_gstep (j := 30) (t := 99) (by exact rfl) (by exact rfl) (by exact rfl) (et (gS rfl (gS rfl (gS rfl (gS rfl (gS rfl (gS rfl (gS rfl (gS rfl (gS rfl (gS rfl (gS rfl g0))))))))))) rfl) rfl (y_pickT (et (gS rfl (gS rfl (gS rfl (gS rfl (gS rfl (gS rfl (gS rfl g0))))))) rfl) (et g0 rfl)) ?_
                                refine p_step (by exact rfl) (y_pickF (et (gS rfl (gS rfl (gS rfl (gS rfl (gS rfl (gS rfl (gS rfl (gS rfl (gS rfl (gS rfl (gS rfl (gS rfl g0)))))))))))) rfl) (et g0 rfl)) ?_
                                refine p_nil ?_
                                refine hK107 _ _ ?_
                                refine fg3 0 2 111 (gS rfl (gS rfl (gS rfl (gS rfl (gS rfl (gS rfl (gS rfl (gS rfl (gS rfl (gS rfl (gS rfl (gS rfl (gS rfl (gS rfl (gS rfl (gS rfl (gS rfl (gS rfl (gS rfl (gS rfl (gS rfl (gS rfl (gS rfl (gS rfl (gS rfl (gS rfl (gS rfl (gS rfl (gS rfl (gS rfl (gS rfl (gS rfl (gS rfl (gS rfl (gS rfl (gS rfl (gS rfl (gS rfl (gS rfl (gS rfl (gS rfl (gS rfl (gS rfl (gS rfl (gS rfl (gS rfl (gS rfl (gS rfl (gS rfl (gS rfl (gS rfl (gS rfl (gS rfl (gS rfl g0)))))))))))))))))))))))))))))))))))))))))))))))))))))) (gS rfl (gS rfl (gS rfl (gS rfl (gS rfl (gS rfl (gS rfl (gS rfl (gS rfl (gS rfl (gS rfl (gS rfl (gS rfl (gS rfl (gS rfl (gS rfl (gS rfl (gS rfl (gS rfl (gS rfl (gS rfl (gS rfl (gS rfl (gS rfl (gS rfl (gS rfl (gS rfl (gS rfl (gS rfl (gS rfl (gS rfl (gS rfl (gS rfl (gS rfl (gS rfl (gS rfl (gS rfl (gS rfl (gS rfl (gS rfl (gS rfl (gS rfl (gS rfl (gS rfl (gS rfl (gS rfl (gS rfl (gS rfl (gS rfl (gS rfl (gS rfl (gS rfl (gS rfl g0))))))))))))))))))))))))))))))))))))))))))))))))))))) g0 (fun g => ?_)
                                refine c_false (et g0 rfl) (by rfl) ?_
                                refine c_skip ?_
                                refine hK106 _ _ ?_
                                refine fg2 0 2 (gS rfl (gS rfl g0)) (gS rfl g0) (fun g => ?_)
                                exact (by
                                  refine c_region ?_
                                  refine l_step (y_moveV (et (gS rfl g0) rfl)) ?_
                                  refine l_step (y_moveV (et (gS rfl g0) rfl)) ?_
                                  refine l_step (y_bld bN bld65_z) ?_
                                  replace hX := hX.done (W := { s1.now with refund := s1.now.refund - (sMinus (triAt s.start f.self (argN f.stack 0)) (slotAt (acctAt s.now.accts f.self).slots (argN f.stack 0)) (argN f.stack 1)) + (sPlus (triAt s.start f.self (argN f.stack 0)) (slotAt (acctAt s.now.accts f.self).slots (argN f.stack 0)) (argN f.stack 1)), accts := putA s1.now.accts (setSlots (acctAt s1.now.accts f.self) (putS (acctAt s1.now.accts f.self).slots (argN f.stack 0) (argN f.stack 1))) }) (c' := c') (ay_slot { s1.now with refund := s1.now.refund - (sMinus (triAt s.start f.self (argN f.stack 0)) (slotAt (acctAt s.now.accts f.self).slots (argN f.stack 0)) (argN f.stack 1)) + (sPlus (triAt s.start f.self (argN f.stack 0)) (slotAt (acctAt s.now.accts f.self).slots (argN f.stack 0)) (argN f.stack 1)) } f.self (argN f.stack 0) (argN f.stack 1)) (by omega) (by show s1.now.refund - (sMinus (triAt s.start f.self (argN f.stack 0)) (slotAt (acctAt s.now.accts f.self).slots (argN f.stack 0)) (argN f.stack 1)) + (sPlus (triAt s.start f.self (argN f.stack 0)) (slotAt (acctAt s.now.accts f.self).slots (argN f.stack 0)) (argN f.stack 1)) + 200 * c' ≤ s1.now.refund + 200 * c1; omega)
                                  refine l_eff (e_callV cal_259 (aC (et (gS rfl (gS rfl g0)) rfl) (aC (et (gS rfl g0) rfl) (aC (v := .int .u16 ((2 : Nat) : Int)) rfl (aC rfl (aC (et g0 rfl) (aC (v := .int .u16 ((1 : Nat) : Int)) rfl aN)))))) (m_settle0 hX.ex hsf hph1 rfl 2 0 1 (by omega) (by decide) (by omega))) (fun v118 w118 h118 => ?_)
                                  obtain ⟨rfl, cs118, y118⟩ := h118
                                  replace k8 := k8.ch y118.et.go.ch (by intro hm; (have e0 := hm); omega)
                                  replace k12 := k12.ch y118.et.go.ch (by intro hm; (have e0 := hm); omega)
                                  replace k13 := k13.ch y118.et.go.ch (by intro hm; (have e0 := hm); omega)
                                  replace k102 := k102.ch y118.et.go.ch (by intro hm; (have e0 := hm); omega)
                                  replace hX := hX.trans y118
                                  replace U := U.cc y118.et.go.ch (by intro b hb; exact .inl trivial)
                                  refine l_nil ?_
                                  refine end0 rfl ?_
                                  rw [hs1] at hX
                                  exact ⟨rfl, _, _, _, hX⟩)
                              · skip
                                have hp9 : (sPlus (triAt s.start f.self (argN f.stack 0)) (slotAt (acctAt s.now.accts f.self).slots (argN f.stack 0)) (argN f.stack 1)) = 0 := by have := of_decide_eq_false q115; omega
                                replace hX := hX.ut0 hp9
                                refine p_gskip (j := 33) (t := 102) (by exact rfl) (by exact rfl) (by exact rfl) (et g0 rfl) rfl rfl ?_
                                refine p_gskip (j := 33) (t := 102) (by exact rfl) (by exact rfl) (by exact rfl) (et (gS rfl g0) rfl) rfl rfl ?_
                                refine p_gskip (j := 33) (t := 102) (by exact rfl) (by exact rfl) (by exact rfl) (et (gS rfl (gS rfl g0)) rfl) rfl rfl ?_
                                refine p_gskip (j := 33) (t := 102) (by exact rfl) (by exact rfl) (by exact rfl) (et (gS rfl (gS rfl (gS rfl g0))) rfl) rfl rfl ?_
                                refine p_gskip (j := 33) (t := 102) (by exact rfl) (by exact rfl) (by exact rfl) (et (gS rfl (gS rfl (gS rfl (gS rfl g0)))) rfl) rfl rfl ?_
                                refine p_geskip (j := 33) (t := 102) (by exact rfl) (by exact rfl) (by exact rfl) (et (gS rfl (gS rfl (gS rfl (gS rfl (gS rfl g0))))) rfl) rfl rfl ⟨.inr SU, ?_⟩
                                refine p_gskip (j := 33) (t := 102) (by exact rfl) (by exact rfl) (by exact rfl) (et (gS rfl (gS rfl (gS rfl (gS rfl (gS rfl (gS rfl g0)))))) rfl) rfl rfl ?_
                                refine p_gstep (j := 30) (t := 99) (by exact rfl) (by exact rfl) (by exact rfl) (et (gS rfl (gS rfl (gS rfl (gS rfl (gS rfl (gS rfl (gS rfl (gS rfl (gS rfl (gS rfl (gS rfl g0))))))))))) rfl) rfl (y_pickF (et (gS rfl (gS rfl (gS rfl (gS rfl (gS rfl (gS rfl (gS rfl g0))))))) rfl) rfl) ?_
                                refine p_step (by exact rfl) (y_pickF (et (gS rfl (gS rfl (gS rfl (gS rfl (gS rfl (gS rfl (gS rfl (gS rfl (gS rfl (gS rfl (gS rfl (gS rfl g0)))))))))))) rfl) (et g0 rfl)) ?_
                                refine p_nil ?_
                                refine hK107 _ _ ?_
                                refine fg3 0 2 111 (gS rfl (gS rfl (gS rfl (gS rfl (gS rfl (gS rfl (gS rfl (gS rfl (gS rfl (gS rfl (gS rfl (gS rfl (gS rfl (gS rfl (gS rfl (gS rfl (gS rfl (gS rfl (gS rfl (gS rfl (gS rfl (gS rfl (gS rfl (gS rfl (gS rfl (gS rfl (gS rfl (gS rfl (gS rfl (gS rfl (gS rfl (gS rfl (gS rfl (gS rfl (gS rfl (gS rfl (gS rfl (gS rfl (gS rfl (gS rfl (gS rfl (gS rfl (gS rfl (gS rfl (gS rfl (gS rfl (gS rfl (gS rfl (gS rfl (gS rfl (gS rfl (gS rfl (gS rfl (gS rfl g0)))))))))))))))))))))))))))))))))))))))))))))))))))))) (gS rfl (gS rfl (gS rfl (gS rfl (gS rfl (gS rfl (gS rfl (gS rfl (gS rfl (gS rfl (gS rfl (gS rfl (gS rfl (gS rfl (gS rfl (gS rfl (gS rfl (gS rfl (gS rfl (gS rfl (gS rfl (gS rfl (gS rfl (gS rfl (gS rfl (gS rfl (gS rfl (gS rfl (gS rfl (gS rfl (gS rfl (gS rfl (gS rfl (gS rfl (gS rfl (gS rfl (gS rfl (gS rfl (gS rfl (gS rfl (gS rfl (gS rfl (gS rfl (gS rfl (gS rfl (gS rfl (gS rfl (gS rfl (gS rfl (gS rfl (gS rfl (gS rfl (gS rfl g0))))))))))))))))))))))))))))))))))))))))))))))))))))) g0 (fun g => ?_)
                                refine c_false (et g0 rfl) rfl ?_
                                refine c_skip ?_
                                refine hK106 _ _ ?_
                                refine fg2 0 2 (gS rfl (gS rfl g0)) (gS rfl g0) (fun g => ?_)
                                exact (by
                                  refine c_region ?_
                                  refine l_step (y_moveV (et (gS rfl g0) rfl)) ?_
                                  refine l_step (y_moveV (et (gS rfl g0) rfl)) ?_
                                  refine l_step (y_bld bN bld65_z) ?_
                                  replace hX := hX.done (W := { s1.now with refund := s1.now.refund - (sMinus (triAt s.start f.self (argN f.stack 0)) (slotAt (acctAt s.now.accts f.self).slots (argN f.stack 0)) (argN f.stack 1)) + (sPlus (triAt s.start f.self (argN f.stack 0)) (slotAt (acctAt s.now.accts f.self).slots (argN f.stack 0)) (argN f.stack 1)), accts := putA s1.now.accts (setSlots (acctAt s1.now.accts f.self) (putS (acctAt s1.now.accts f.self).slots (argN f.stack 0) (argN f.stack 1))) }) (c' := c') (ay_slot { s1.now with refund := s1.now.refund - (sMinus (triAt s.start f.self (argN f.stack 0)) (slotAt (acctAt s.now.accts f.self).slots (argN f.stack 0)) (argN f.stack 1)) + (sPlus (triAt s.start f.self (argN f.stack 0)) (slotAt (acctAt s.now.accts f.self).slots (argN f.stack 0)) (argN f.stack 1)) } f.self (argN f.stack 0) (argN f.stack 1)) (by omega) (by show s1.now.refund - (sMinus (triAt s.start f.self (argN f.stack 0)) (slotAt (acctAt s.now.accts f.self).slots (argN f.stack 0)) (argN f.stack 1)) + (sPlus (triAt s.start f.self (argN f.stack 0)) (slotAt (acctAt s.now.accts f.self).slots (argN f.stack 0)) (argN f.stack 1)) + 200 * c' ≤ s1.now.refund + 200 * c1; omega)
                                  refine l_eff (e_callV cal_259 (aC (et (gS rfl (gS rfl g0)) rfl) (aC (et (gS rfl g0) rfl) (aC (v := .int .u16 ((2 : Nat) : Int)) rfl (aC rfl (aC (et g0 rfl) (aC (v := .int .u16 ((1 : Nat) : Int)) rfl aN)))))) (m_settle0 hX.ex hsf hph1 rfl 2 0 1 (by omega) (by decide) (by omega))) (fun v120 w120 h120 => ?_)
                                  obtain ⟨rfl, cs120, y120⟩ := h120
                                  replace k8 := k8.ch y120.et.go.ch (by intro hm; (have e0 := hm); omega)
                                  replace k12 := k12.ch y120.et.go.ch (by intro hm; (have e0 := hm); omega)
                                  replace k13 := k13.ch y120.et.go.ch (by intro hm; (have e0 := hm); omega)
                                  replace k102 := k102.ch y120.et.go.ch (by intro hm; (have e0 := hm); omega)
                                  replace hX := hX.trans y120
                                  replace U := U.cc y120.et.go.ch (by intro b hb; exact .inl trivial)
                                  refine l_nil ?_
                                  refine end0 rfl ?_
                                  rw [hs1] at hX
                                  exact ⟨rfl, _, _, _, hX⟩)
                          · skip
                            have hm9 : (sMinus (triAt s.start f.self (argN f.stack 0)) (slotAt (acctAt s.now.accts f.self).slots (argN f.stack 0)) (argN f.stack 1)) = 0 := by have := of_decide_eq_false q112; omega
                            replace hX := hX.dn0 hm9
                            refine p_gskip (j := 20) (t := 89) (by exact rfl) (by exact rfl) (by exact rfl) (et g0 rfl) rfl rfl ?_
                            refine p_gskip (j := 20) (t := 89) (by exact rfl) (by exact rfl) (by exact rfl) (et (gS rfl g0) rfl) rfl rfl ?_
                            refine p_gskip (j := 20) (t := 89) (by exact rfl) (by exact rfl) (by exact rfl) (et (gS rfl (gS rfl g0)) rfl) rfl rfl ?_
                            refine p_gskip (j := 20) (t := 89) (by exact rfl) (by exact rfl) (by exact rfl) (et (gS rfl (gS rfl (gS rfl g0))) rfl) rfl rfl ?_
                            refine p_gskip (j := 20) (t := 89) (by exact rfl) (by exact rfl) (by exact rfl) (et (gS rfl (gS rfl (gS rfl (gS rfl g0)))) rfl) rfl rfl ?_
                            refine p_geskip (j := 20) (t := 89) (by exact rfl) (by exact rfl) (by exact rfl) (et (gS rfl (gS rfl (gS rfl (gS rfl (gS rfl g0))))) rfl) rfl rfl ⟨.inr SU, ?_⟩
                            refine p_gskip (j := 20) (t := 89) (by exact rfl) (by exact rfl) (by exact rfl) (et (gS rfl (gS rfl (gS rfl (gS rfl (gS rfl (gS rfl g0)))))) rfl) rfl rfl ?_
                            refine p_gstep (j := 17) (t := 86) (by exact rfl) (by exact rfl) (by exact rfl) (et (gS rfl (gS rfl (gS rfl (gS rfl (gS rfl (gS rfl (gS rfl (gS rfl (gS rfl (gS rfl (gS rfl g0))))))))))) rfl) rfl (y_pickF (et (gS rfl (gS rfl (gS rfl (gS rfl (gS rfl (gS rfl (gS rfl g0))))))) rfl) rfl) ?_
                            refine p_step (by exact rfl) (y_pickF (et (gS rfl (gS rfl (gS rfl (gS rfl (gS rfl (gS rfl (gS rfl (gS rfl (gS rfl (gS rfl (gS rfl (gS rfl g0)))))))))))) rfl) (et g0 rfl)) ?_
                            refine p_step (by exact rfl) (y_moveV (et g0 rfl)) ?_
                            refine p_gstep (j := 30) (t := 99) (by exact rfl) (by exact rfl) (by exact rfl) (et g0 rfl) rfl (y_moveV (et (gS rfl (gS rfl (gS rfl (gS rfl (gS rfl (gS rfl (gS rfl (gS rfl (gS rfl (gS rfl (gS rfl (gS rfl (gS rfl (gS rfl (gS rfl (gS rfl (gS rfl (gS rfl (gS rfl (gS rfl (gS rfl (gS rfl (gS rfl (gS rfl (gS rfl (gS rfl (gS rfl (gS rfl (gS rfl (gS rfl (gS rfl (gS rfl (gS rfl (gS rfl (gS rfl g0))))))))))))))))))))))))))))))))))) rfl)) ?_
                            refine p_gstep (j := 30) (t := 99) (by exact rfl) (by exact rfl) (by exact rfl) (et (gS rfl g0) rfl) rfl (y_gtr (et g0 rfl) rfl) ?_
                            refine p_gstep (j := 30) (t := 99) (by exact rfl) (by exact rfl) (by exact rfl) (et (gS rfl (gS rfl g0)) rfl) rfl (y_moveV (et g0 rfl)) ?_
                            refine gsplitP (i := 102) g0 (fun q121 => ?_) (fun q121 => ?_)
                            · skip
                              have hp9 : 0 < (sPlus (triAt s.start f.self (argN f.stack 0)) (slotAt (acctAt s.now.accts f.self).slots (argN f.stack 0)) (argN f.stack 1)) := by have := of_decide_eq_true q121; omega
                              refine p_gstep (j := 33) (t := 102) (by exact rfl) (by exact rfl) (by exact rfl) (et g0 rfl) rfl (y_moveV (et (gS rfl (gS rfl (gS rfl (gS rfl (gS rfl (gS rfl (gS rfl (gS rfl (gS rfl (gS rfl (gS rfl (gS rfl (gS rfl (gS rfl (gS rfl (gS rfl (gS rfl (gS rfl (gS rfl (gS rfl (gS rfl (gS rfl (gS rfl (gS rfl (gS rfl (gS rfl (gS rfl (gS rfl (gS rfl (gS rfl (gS rfl (gS rfl (gS rfl (gS rfl (gS rfl (gS rfl (gS rfl (gS rfl (gS rfl (gS rfl (gS rfl (gS rfl (gS rfl (gS rfl g0)))))))))))))))))))))))))))))))))))))))))))) rfl)) ?_
                              refine p_gstep (j := 33) (t := 102) (by exact rfl) (by exact rfl) (by exact rfl) (et (gS rfl g0) rfl) rfl (y_nil (et g0 rfl)) ?_
                              refine p_gstep (j := 33) (t := 102) (by exact rfl) (by exact rfl) (by exact rfl) (et (gS rfl (gS rfl g0)) rfl) rfl (y_fld fld_75_0 (et g0 rfl)) ?_
                              refine p_gstep (j := 33) (t := 102) (by exact rfl) (by exact rfl) (by exact rfl) (et (gS rfl (gS rfl (gS rfl g0))) rfl) rfl (y_load1 one_59 (et g0 rfl) (atXLP)) ?_
                              refine p_gstep (j := 33) (t := 102) (by exact rfl) (by exact rfl) (by exact rfl) (et (gS rfl (gS rfl (gS rfl (gS rfl g0)))) rfl) rfl (y_moveV (et (gS rfl (gS rfl (gS rfl (gS rfl (gS rfl (gS rfl (gS rfl (gS rfl (gS rfl (gS rfl (gS rfl (gS rfl (gS rfl (gS rfl (gS rfl (gS rfl (gS rfl (gS rfl (gS rfl (gS rfl (gS rfl (gS rfl (gS rfl (gS rfl (gS rfl (gS rfl (gS rfl (gS rfl (gS rfl (gS rfl (gS rfl (gS rfl (gS rfl (gS rfl (gS rfl (gS rfl (gS rfl (gS rfl (gS rfl (gS rfl (gS rfl (gS rfl (gS rfl g0))))))))))))))))))))))))))))))))))))))))))) rfl)) ?_
                              refine p_geff (j := 33) (t := 102) (by exact rfl) (by exact rfl) (by exact rfl) (et (gS rfl (gS rfl (gS rfl (gS rfl (gS rfl g0))))) rfl) rfl (e_callV cal_308 (aC (et (gS rfl g0) rfl) (aC (et g0 rfl) aN)) (v_refundUp hX.ex.vl hX.ex.ok (sPlus (triAt s.start f.self (argN f.stack 0)) (slotAt (acctAt s.now.accts f.self).slots (argN f.stack 0)) (argN f.stack 1)) (by rw [hX.ref]; show s1.now.refund - (sMinus (triAt s.start f.self (argN f.stack 0)) (slotAt (acctAt s.now.accts f.self).slots (argN f.stack 0)) (argN f.stack 1)) + (sPlus (triAt s.start f.self (argN f.stack 0)) (slotAt (acctAt s.now.accts f.self).slots (argN f.stack 0)) (argN f.stack 1)) ≤ _; rw [hrf]; omega) (hX.jr (by decide)))) (fun v122 w122 h122 => ?_)
                              obtain ⟨rfl, cl122, cs122, V122, t122, ok122, js122⟩ := h122
                              have nc8 := (t122.col b8 k8.lt).trans nc8
                              have nc12 := (t122.col b12 k12.lt).trans nc12
                              have nc13 := (t122.col b13 k13.lt).trans nc13
                              have nc102 := (t122.col b102 k102.lt).trans nc102
                              have kp122 := hX.ex.vl.kC
                              replace k8 := k8.ch t122.go.ch (by intro hm; (have e0 := hm); omega)
                              replace k12 := k12.ch t122.go.ch (by intro hm; (have e0 := hm); omega)
                              replace k13 := k13.ch t122.go.ch (by intro hm; (have e0 := hm); omega)
                              replace k102 := k102.ch t122.go.ch (by intro hm; (have e0 := hm); omega)
                              replace hX := (hX.ut t122 ok122 js122)
                              replace U := U.cc t122.go.ch (by intro b hb; exact .inl trivial)
                              have cq9 := SU.ch.size
                              replace SU := SU.xc t122 kp122 (hX.ex.vl.c1 hX.ex.lx.pS rfl) (by intro b hlt hb; have h9 := cq b hlt; have e0 := hb; first | omega | (dsimp only at e0; omega))
                              replace cq := cq_step cq t122.col cq9
                              refine ⟨.inr SU, ?_⟩
                              refine p_gstep (j := 33) (t := 102) (by exact rfl) (by exact rfl) (by exact rfl) (et (gS rfl (gS rfl (gS rfl (gS rfl (gS rfl (gS rfl g0)))))) rfl) rfl (y_not (et g0 rfl)) ?_
                              refine p_gstep (j := 30) (t := 99) (by exact rfl) (by exact rfl) (by exact rfl) (et (gS rfl (gS rfl (gS rfl (gS rfl (gS rfl (gS rfl (gS rfl (gS rfl (gS rfl (gS rfl (gS rfl g0))))))))))) rfl) rfl (y_pickT (et (gS rfl (gS rfl (gS rfl (gS rfl (gS rfl (gS rfl (gS rfl g0))))))) rfl) (et g0 rfl)) ?_
                              refine p_step (by exact rfl) (y_pickF (et (gS rfl (gS rfl (gS rfl (gS rfl (gS rfl (gS rfl (gS rfl (gS rfl (gS rfl (gS rfl (gS rfl (gS rfl g0)))))))))))) rfl) (et g0 rfl)) ?_
                              refine p_nil ?_
                              refine hK107 _ _ ?_
                              refine fg3 0 2 111 (gS rfl (gS rfl (gS rfl (gS rfl (gS rfl (gS rfl (gS rfl (gS rfl (gS rfl (gS rfl (gS rfl (gS rfl (gS rfl (gS rfl (gS rfl (gS rfl (gS rfl (gS rfl (gS rfl (gS rfl (gS rfl (gS rfl (gS rfl (gS rfl (gS rfl (gS rfl (gS rfl (gS rfl (gS rfl (gS rfl (gS rfl (gS rfl (gS rfl (gS rfl (gS rfl (gS rfl (gS rfl (gS rfl (gS rfl (gS rfl (gS rfl (gS rfl (gS rfl (gS rfl (gS rfl (gS rfl (gS rfl (gS rfl (gS rfl (gS rfl (gS rfl (gS rfl (gS rfl g0))))))))))))))))))))))))))))))))))))))))))))))))))))) (gS rfl (gS rfl (gS rfl (gS rfl (gS rfl (gS rfl (gS rfl (gS rfl (gS rfl (gS rfl (gS rfl (gS rfl (gS rfl (gS rfl (gS rfl (gS rfl (gS rfl (gS rfl (gS rfl (gS rfl (gS rfl (gS rfl (gS rfl (gS rfl (gS rfl (gS rfl (gS rfl (gS rfl (gS rfl (gS rfl (gS rfl (gS rfl (gS rfl (gS rfl (gS rfl (gS rfl (gS rfl (gS rfl (gS rfl (gS rfl (gS rfl (gS rfl (gS rfl (gS rfl (gS rfl (gS rfl (gS rfl (gS rfl (gS rfl (gS rfl (gS rfl (gS rfl g0)))))))))))))))))))))))))))))))))))))))))))))))))))) g0 (fun g => ?_)
                              refine c_false (et g0 rfl) (by rfl) ?_
                              refine c_skip ?_
                              refine hK106 _ _ ?_
                              refine fg2 0 2 (gS rfl (gS rfl g0)) (gS rfl g0) (fun g => ?_)
                              exact (by
                                refine c_region ?_
                                refine l_step (y_moveV (et (gS rfl g0) rfl)) ?_
                                refine l_step (y_moveV (et (gS rfl g0) rfl)) ?_
                                refine l_step (y_bld bN bld65_z) ?_
                                replace hX := hX.done (W := { s1.now with refund := s1.now.refund - (sMinus (triAt s.start f.self (argN f.stack 0)) (slotAt (acctAt s.now.accts f.self).slots (argN f.stack 0)) (argN f.stack 1)) + (sPlus (triAt s.start f.self (argN f.stack 0)) (slotAt (acctAt s.now.accts f.self).slots (argN f.stack 0)) (argN f.stack 1)), accts := putA s1.now.accts (setSlots (acctAt s1.now.accts f.self) (putS (acctAt s1.now.accts f.self).slots (argN f.stack 0) (argN f.stack 1))) }) (c' := c') (ay_slot { s1.now with refund := s1.now.refund - (sMinus (triAt s.start f.self (argN f.stack 0)) (slotAt (acctAt s.now.accts f.self).slots (argN f.stack 0)) (argN f.stack 1)) + (sPlus (triAt s.start f.self (argN f.stack 0)) (slotAt (acctAt s.now.accts f.self).slots (argN f.stack 0)) (argN f.stack 1)) } f.self (argN f.stack 0) (argN f.stack 1)) (by omega) (by show s1.now.refund - (sMinus (triAt s.start f.self (argN f.stack 0)) (slotAt (acctAt s.now.accts f.self).slots (argN f.stack 0)) (argN f.stack 1)) + (sPlus (triAt s.start f.self (argN f.stack 0)) (slotAt (acctAt s.now.accts f.self).slots (argN f.stack 0)) (argN f.stack 1)) + 200 * c' ≤ s1.now.refund + 200 * c1; omega)
                                refine l_eff (e_callV cal_259 (aC (et (gS rfl (gS rfl g0)) rfl) (aC (et (gS rfl g0) rfl) (aC (v := .int .u16 ((2 : Nat) : Int)) rfl (aC rfl (aC (et g0 rfl) (aC (v := .int .u16 ((1 : Nat) : Int)) rfl aN)))))) (m_settle0 hX.ex hsf hph1 rfl 2 0 1 (by omega) (by decide) (by omega))) (fun v124 w124 h124 => ?_)
                                obtain ⟨rfl, cs124, y124⟩ := h124
                                replace k8 := k8.ch y124.et.go.ch (by intro hm; (have e0 := hm); omega)
                                replace k12 := k12.ch y124.et.go.ch (by intro hm; (have e0 := hm); omega)
                                replace k13 := k13.ch y124.et.go.ch (by intro hm; (have e0 := hm); omega)
                                replace k102 := k102.ch y124.et.go.ch (by intro hm; (have e0 := hm); omega)
                                replace hX := hX.trans y124
                                replace U := U.cc y124.et.go.ch (by intro b hb; exact .inl trivial)
                                refine l_nil ?_
                                refine end0 rfl ?_
                                rw [hs1] at hX
                                exact ⟨rfl, _, _, _, hX⟩)
                            · skip
                              have hp9 : (sPlus (triAt s.start f.self (argN f.stack 0)) (slotAt (acctAt s.now.accts f.self).slots (argN f.stack 0)) (argN f.stack 1)) = 0 := by have := of_decide_eq_false q121; omega
                              replace hX := hX.ut0 hp9
                              refine p_gskip (j := 33) (t := 102) (by exact rfl) (by exact rfl) (by exact rfl) (et g0 rfl) rfl rfl ?_
                              refine p_gskip (j := 33) (t := 102) (by exact rfl) (by exact rfl) (by exact rfl) (et (gS rfl g0) rfl) rfl rfl ?_
                              refine p_gskip (j := 33) (t := 102) (by exact rfl) (by exact rfl) (by exact rfl) (et (gS rfl (gS rfl g0)) rfl) rfl rfl ?_
                              refine p_gskip (j := 33) (t := 102) (by exact rfl) (by exact rfl) (by exact rfl) (et (gS rfl (gS rfl (gS rfl g0))) rfl) rfl rfl ?_
                              refine p_gskip (j := 33) (t := 102) (by exact rfl) (by exact rfl) (by exact rfl) (et (gS rfl (gS rfl (gS rfl (gS rfl g0)))) rfl) rfl rfl ?_
                              refine p_geskip (j := 33) (t := 102) (by exact rfl) (by exact rfl) (by exact rfl) (et (gS rfl (gS rfl (gS rfl (gS rfl (gS rfl g0))))) rfl) rfl rfl ⟨.inr SU, ?_⟩
                              refine p_gskip (j := 33) (t := 102) (by exact rfl) (by exact rfl) (by exact rfl) (et (gS rfl (gS rfl (gS rfl (gS rfl (gS rfl (gS rfl g0)))))) rfl) rfl rfl ?_
                              refine p_gstep (j := 30) (t := 99) (by exact rfl) (by exact rfl) (by exact rfl) (et (gS rfl (gS rfl (gS rfl (gS rfl (gS rfl (gS rfl (gS rfl (gS rfl (gS rfl (gS rfl (gS rfl g0))))))))))) rfl) rfl (y_pickF (et (gS rfl (gS rfl (gS rfl (gS rfl (gS rfl (gS rfl (gS rfl g0))))))) rfl) rfl) ?_
                              refine p_step (by exact rfl) (y_pickF (et (gS rfl (gS rfl (gS rfl (gS rfl (gS rfl (gS rfl (gS rfl (gS rfl (gS rfl (gS rfl (gS rfl (gS rfl g0)))))))))))) rfl) (et g0 rfl)) ?_
                              refine p_nil ?_
                              refine hK107 _ _ ?_
                              refine fg3 0 2 111 (gS rfl (gS rfl (gS rfl (gS rfl (gS rfl (gS rfl (gS rfl (gS rfl (gS rfl (gS rfl (gS rfl (gS rfl (gS rfl (gS rfl (gS rfl (gS rfl (gS rfl (gS rfl (gS rfl (gS rfl (gS rfl (gS rfl (gS rfl (gS rfl (gS rfl (gS rfl (gS rfl (gS rfl (gS rfl (gS rfl (gS rfl (gS rfl (gS rfl (gS rfl (gS rfl (gS rfl (gS rfl (gS rfl (gS rfl (gS rfl (gS rfl (gS rfl (gS rfl (gS rfl (gS rfl (gS rfl (gS rfl (gS rfl (gS rfl (gS rfl (gS rfl (gS rfl (gS rfl g0))))))))))))))))))))))))))))))))))))))))))))))))))))) (gS rfl (gS rfl (gS rfl (gS rfl (gS rfl (gS rfl (gS rfl (gS rfl (gS rfl (gS rfl (gS rfl (gS rfl (gS rfl (gS rfl (gS rfl (gS rfl (gS rfl (gS rfl (gS rfl (gS rfl (gS rfl (gS rfl (gS rfl (gS rfl (gS rfl (gS rfl (gS rfl (gS rfl (gS rfl (gS rfl (gS rfl (gS rfl (gS rfl (gS rfl (gS rfl (gS rfl (gS rfl (gS rfl (gS rfl (gS rfl (gS rfl (gS rfl (gS rfl (gS rfl (gS rfl (gS rfl (gS rfl (gS rfl (gS rfl (gS rfl (gS rfl (gS rfl g0)))))))))))))))))))))))))))))))))))))))))))))))))))) g0 (fun g => ?_)
                              refine c_false (et g0 rfl) rfl ?_
                              refine c_skip ?_
                              refine hK106 _ _ ?_
                              refine fg2 0 2 (gS rfl (gS rfl g0)) (gS rfl g0) (fun g => ?_)
                              exact (by
                                refine c_region ?_
                                refine l_step (y_moveV (et (gS rfl g0) rfl)) ?_
                                refine l_step (y_moveV (et (gS rfl g0) rfl)) ?_
                                refine l_step (y_bld bN bld65_z) ?_
                                replace hX := hX.done (W := { s1.now with refund := s1.now.refund - (sMinus (triAt s.start f.self (argN f.stack 0)) (slotAt (acctAt s.now.accts f.self).slots (argN f.stack 0)) (argN f.stack 1)) + (sPlus (triAt s.start f.self (argN f.stack 0)) (slotAt (acctAt s.now.accts f.self).slots (argN f.stack 0)) (argN f.stack 1)), accts := putA s1.now.accts (setSlots (acctAt s1.now.accts f.self) (putS (acctAt s1.now.accts f.self).slots (argN f.stack 0) (argN f.stack 1))) }) (c' := c') (ay_slot { s1.now with refund := s1.now.refund - (sMinus (triAt s.start f.self (argN f.stack 0)) (slotAt (acctAt s.now.accts f.self).slots (argN f.stack 0)) (argN f.stack 1)) + (sPlus (triAt s.start f.self (argN f.stack 0)) (slotAt (acctAt s.now.accts f.self).slots (argN f.stack 0)) (argN f.stack 1)) } f.self (argN f.stack 0) (argN f.stack 1)) (by omega) (by show s1.now.refund - (sMinus (triAt s.start f.self (argN f.stack 0)) (slotAt (acctAt s.now.accts f.self).slots (argN f.stack 0)) (argN f.stack 1)) + (sPlus (triAt s.start f.self (argN f.stack 0)) (slotAt (acctAt s.now.accts f.self).slots (argN f.stack 0)) (argN f.stack 1)) + 200 * c' ≤ s1.now.refund + 200 * c1; omega)
                                refine l_eff (e_callV cal_259 (aC (et (gS rfl (gS rfl g0)) rfl) (aC (et (gS rfl g0) rfl) (aC (v := .int .u16 ((2 : Nat) : Int)) rfl (aC rfl (aC (et g0 rfl) (aC (v := .int .u16 ((1 : Nat) : Int)) rfl aN)))))) (m_settle0 hX.ex hsf hph1 rfl 2 0 1 (by omega) (by decide) (by omega))) (fun v126 w126 h126 => ?_)
                                obtain ⟨rfl, cs126, y126⟩ := h126
                                replace k8 := k8.ch y126.et.go.ch (by intro hm; (have e0 := hm); omega)
                                replace k12 := k12.ch y126.et.go.ch (by intro hm; (have e0 := hm); omega)
                                replace k13 := k13.ch y126.et.go.ch (by intro hm; (have e0 := hm); omega)
                                replace k102 := k102.ch y126.et.go.ch (by intro hm; (have e0 := hm); omega)
                                replace hX := hX.trans y126
                                replace U := U.cc y126.et.go.ch (by intro b hb; exact .inl trivial)
                                refine l_nil ?_
                                refine end0 rfl ?_
                                rw [hs1] at hX
                                exact ⟨rfl, _, _, _, hX⟩)
                      · skip
                        have heq9 : (absY s1.now).slot f.self (argN f.stack 0) = (argN f.stack 1) := by
                          show slotAt (acctAt s1.now.accts f.self).slots (argN f.stack 0) = _
                          rw [hac]
                          have := of_decide_eq_false q109
                          omega
                        replace hX := ((XD.start hX).more).to (B := { absY s1.now with slot := fset2 (absY s1.now).slot f.self (argN f.stack 0) (argN f.stack 1) }) (by rw [fset2_self _ heq9])
                        refine p_gskip (j := 3) (t := 72) (by exact rfl) (by exact rfl) (by exact rfl) (et g0 rfl) rfl rfl ?_
                        refine p_gskip (j := 3) (t := 72) (by exact rfl) (by exact rfl) (by exact rfl) (et (gS rfl g0) rfl) rfl rfl ?_
                        refine p_gskip (j := 3) (t := 72) (by exact rfl) (by exact rfl) (by exact rfl) (et (gS rfl (gS rfl g0)) rfl) rfl rfl ?_
                        refine p_gskip (j := 3) (t := 72) (by exact rfl) (by exact rfl) (by exact rfl) (et (gS rfl (gS rfl (gS rfl g0))) rfl) rfl rfl ?_
                        refine p_gskip (j := 3) (t := 72) (by exact rfl) (by exact rfl) (by exact rfl) (et (gS rfl (gS rfl (gS rfl (gS rfl g0)))) rfl) rfl rfl ?_
                        refine p_gskip (j := 3) (t := 72) (by exact rfl) (by exact rfl) (by exact rfl) (et (gS rfl (gS rfl (gS rfl (gS rfl (gS rfl g0))))) rfl) rfl rfl ?_
                        refine p_gskip (j := 3) (t := 72) (by exact rfl) (by exact rfl) (by exact rfl) (et (gS rfl (gS rfl (gS rfl (gS rfl (gS rfl (gS rfl g0)))))) rfl) rfl rfl ?_
                        refine p_gskip (j := 3) (t := 72) (by exact rfl) (by exact rfl) (by exact rfl) (et (gS rfl (gS rfl (gS rfl (gS rfl (gS rfl (gS rfl (gS rfl g0))))))) rfl) rfl rfl ?_
                        refine p_gskip (j := 3) (t := 72) (by exact rfl) (by exact rfl) (by exact rfl) (et (gS rfl (gS rfl (gS rfl (gS rfl (gS rfl (gS rfl (gS rfl (gS rfl g0)))))))) rfl) rfl rfl ?_
                        refine p_gskip (j := 3) (t := 72) (by exact rfl) (by exact rfl) (by exact rfl) (et (gS rfl (gS rfl (gS rfl (gS rfl (gS rfl (gS rfl (gS rfl (gS rfl (gS rfl g0))))))))) rfl) rfl rfl ?_
                        refine p_geskip (j := 3) (t := 72) (by exact rfl) (by exact rfl) (by exact rfl) (et (gS rfl (gS rfl (gS rfl (gS rfl (gS rfl (gS rfl (gS rfl (gS rfl (gS rfl (gS rfl g0)))))))))) rfl) rfl rfl ⟨.inr SU, ?_⟩
                        refine p_gskip (j := 3) (t := 72) (by exact rfl) (by exact rfl) (by exact rfl) (et (gS rfl (gS rfl (gS rfl (gS rfl (gS rfl (gS rfl (gS rfl (gS rfl (gS rfl (gS rfl (gS rfl g0))))))))))) rfl) rfl rfl ?_
                        refine p_step (by exact rfl) (y_pickF (et (gS rfl (gS rfl (gS rfl (gS rfl (gS rfl (gS rfl (gS rfl (gS rfl (gS rfl (gS rfl (gS rfl (gS rfl g0)))))))))))) rfl) rfl) ?_
                        refine p_step (by exact rfl) (y_moveV (et g0 rfl)) ?_
                        refine p_gstep (j := 17) (t := 86) (by exact rfl) (by exact rfl) (by exact rfl) (et g0 rfl) rfl (y_moveV (et (gS rfl (gS rfl (gS rfl (gS rfl (gS rfl (gS rfl (gS rfl (gS rfl (gS rfl (gS rfl (gS rfl (gS rfl (gS rfl (gS rfl (gS rfl (gS rfl (gS rfl (gS rfl (gS rfl g0))))))))))))))))))) rfl)) ?_
                        refine p_gstep (j := 17) (t := 86) (by exact rfl) (by exact rfl) (by exact rfl) (et (gS rfl g0) rfl) rfl (y_gtr (et g0 rfl) rfl) ?_
                        refine p_gstep (j := 17) (t := 86) (by exact rfl) (by exact rfl) (by exact rfl) (et (gS rfl (gS rfl g0)) rfl) rfl (y_moveV (et g0 rfl)) ?_
                        refine gsplitP (i := 89) g0 (fun q127 => ?_) (fun q127 => ?_)
                        · skip
                          have hm9 : 0 < (sMinus (triAt s.start f.self (argN f.stack 0)) (slotAt (acctAt s.now.accts f.self).slots (argN f.stack 0)) (argN f.stack 1)) := by have := of_decide_eq_true q127; omega
                          refine p_gstep (j := 20) (t := 89) (by exact rfl) (by exact rfl) (by exact rfl) (et g0 rfl) rfl (y_moveV (et (gS rfl (gS rfl (gS rfl (gS rfl (gS rfl (gS rfl (gS rfl (gS rfl (gS rfl (gS rfl (gS rfl (gS rfl (gS rfl (gS rfl (gS rfl (gS rfl (gS rfl (gS rfl (gS rfl (gS rfl (gS rfl (gS rfl (gS rfl (gS rfl (gS rfl (gS rfl (gS rfl (gS rfl (gS rfl g0))))))))))))))))))))))))))))) rfl)) ?_
                          refine p_gstep (j := 20) (t := 89) (by exact rfl) (by exact rfl) (by exact rfl) (et (gS rfl g0) rfl) rfl (y_nil (et g0 rfl)) ?_
                          refine p_gstep (j := 20) (t := 89) (by exact rfl) (by exact rfl) (by exact rfl) (et (gS rfl (gS rfl g0)) rfl) rfl (y_fld fld_75_0 (et g0 rfl)) ?_
                          refine p_gstep (j := 20) (t := 89) (by exact rfl) (by exact rfl) (by exact rfl) (et (gS rfl (gS rfl (gS rfl g0))) rfl) rfl (y_load1 one_59 (et g0 rfl) (atXLP)) ?_
                          refine p_gstep (j := 20) (t := 89) (by exact rfl) (by exact rfl) (by exact rfl) (et (gS rfl (gS rfl (gS rfl (gS rfl g0)))) rfl) rfl (y_moveV (et (gS rfl (gS rfl (gS rfl (gS rfl (gS rfl (gS rfl (gS rfl (gS rfl (gS rfl (gS rfl (gS rfl (gS rfl (gS rfl (gS rfl (gS rfl (gS rfl (gS rfl (gS rfl (gS rfl (gS rfl (gS rfl (gS rfl (gS rfl (gS rfl (gS rfl (gS rfl (gS rfl g0))))))))))))))))))))))))))) rfl)) ?_
                          refine p_geff (j := 20) (t := 89) (by exact rfl) (by exact rfl) (by exact rfl) (et (gS rfl (gS rfl (gS rfl (gS rfl (gS rfl g0))))) rfl) rfl (e_callV cal_307 (aC (et (gS rfl g0) rfl) (aC (et g0 rfl) aN)) (v_refundDown hX.ex.vl hX.ex.ok (sMinus (triAt s.start f.self (argN f.stack 0)) (slotAt (acctAt s.now.accts f.self).slots (argN f.stack 0)) (argN f.stack 1)) (by rw [hX.ref]; show _ ≤ s1.now.refund; rw [hrf]; exact hok9) (hX.jr (by decide)))) (fun v128 w128 h128 => ?_)
                          obtain ⟨rfl, cl128, cs128, V128, t128, ok128, js128⟩ := h128
                          have nc8 := (t128.col b8 k8.lt).trans nc8
                          have nc12 := (t128.col b12 k12.lt).trans nc12
                          have nc13 := (t128.col b13 k13.lt).trans nc13
                          have nc102 := (t128.col b102 k102.lt).trans nc102
                          have kp128 := hX.ex.vl.kC
                          replace k8 := k8.ch t128.go.ch (by intro hm; (have e0 := hm); omega)
                          replace k12 := k12.ch t128.go.ch (by intro hm; (have e0 := hm); omega)
                          replace k13 := k13.ch t128.go.ch (by intro hm; (have e0 := hm); omega)
                          replace k102 := k102.ch t128.go.ch (by intro hm; (have e0 := hm); omega)
                          replace hX := (hX.dn t128 ok128 js128)
                          replace U := U.cc t128.go.ch (by intro b hb; exact .inl trivial)
                          have cq9 := SU.ch.size
                          replace SU := SU.xc t128 kp128 (hX.ex.vl.c1 hX.ex.lx.pS rfl) (by intro b hlt hb; have h9 := cq b hlt; have e0 := hb; first | omega | (dsimp only at e0; omega))
                          replace cq := cq_step cq t128.col cq9
                          refine ⟨.inr SU, ?_⟩
                          refine p_gstep (j := 20) (t := 89) (by exact rfl) (by exact rfl) (by exact rfl) (et (gS rfl (gS rfl (gS rfl (gS rfl (gS rfl (gS rfl g0)))))) rfl) rfl (y_not (et g0 rfl)) ?_
                          refine p_gstep (j := 17) (t := 86) (by exact rfl) (by exact rfl) (by exact rfl) (et (gS rfl (gS rfl (gS rfl (gS rfl (gS rfl (gS rfl (gS rfl (gS rfl (gS rfl (gS rfl (gS rfl g0))))))))))) rfl) rfl (y_pickT (et (gS rfl (gS rfl (gS rfl (gS rfl (gS rfl (gS rfl (gS rfl g0))))))) rfl) (et g0 rfl)) ?_
                          refine p_step (by exact rfl) (y_pickF (et (gS rfl (gS rfl (gS rfl (gS rfl (gS rfl (gS rfl (gS rfl (gS rfl (gS rfl (gS rfl (gS rfl (gS rfl g0)))))))))))) rfl) (et g0 rfl)) ?_
                          refine p_step (by exact rfl) (y_moveV (et g0 rfl)) ?_
                          refine gsplitP (i := 99) g0 (fun q129 => ?_) (fun q129 => ?_)
                          · skip
                            cases q129
                          · skip
                            refine p_gstep (j := 30) (t := 99) (by exact rfl) (by exact rfl) (by exact rfl) (et g0 rfl) rfl (y_moveV (et (gS rfl (gS rfl (gS rfl (gS rfl (gS rfl (gS rfl (gS rfl (gS rfl (gS rfl (gS rfl (gS rfl (gS rfl (gS rfl (gS rfl (gS rfl (gS rfl (gS rfl (gS rfl (gS rfl (gS rfl (gS rfl (gS rfl (gS rfl (gS rfl (gS rfl (gS rfl (gS rfl (gS rfl (gS rfl (gS rfl (gS rfl (gS rfl (gS rfl (gS rfl (gS rfl g0))))))))))))))))))))))))))))))))))) rfl)) ?_
                            refine p_gstep (j := 30) (t := 99) (by exact rfl) (by exact rfl) (by exact rfl) (et (gS rfl g0) rfl) rfl (y_gtr (et g0 rfl) rfl) ?_
                            refine p_gstep (j := 30) (t := 99) (by exact rfl) (by exact rfl) (by exact rfl) (et (gS rfl (gS rfl g0)) rfl) rfl (y_moveV (et g0 rfl)) ?_
                            refine gsplitP (i := 102) g0 (fun q130 => ?_) (fun q130 => ?_)
                            · skip
                              have hp9 : 0 < (sPlus (triAt s.start f.self (argN f.stack 0)) (slotAt (acctAt s.now.accts f.self).slots (argN f.stack 0)) (argN f.stack 1)) := by have := of_decide_eq_true q130; omega
                              refine p_gstep (j := 33) (t := 102) (by exact rfl) (by exact rfl) (by exact rfl) (et g0 rfl) rfl (y_moveV (et (gS rfl (gS rfl (gS rfl (gS rfl (gS rfl (gS rfl (gS rfl (gS rfl (gS rfl (gS rfl (gS rfl (gS rfl (gS rfl (gS rfl (gS rfl (gS rfl (gS rfl (gS rfl (gS rfl (gS rfl (gS rfl (gS rfl (gS rfl (gS rfl (gS rfl (gS rfl (gS rfl (gS rfl (gS rfl (gS rfl (gS rfl (gS rfl (gS rfl (gS rfl (gS rfl (gS rfl (gS rfl (gS rfl (gS rfl (gS rfl (gS rfl (gS rfl (gS rfl (gS rfl g0)))))))))))))))))))))))))))))))))))))))))))) rfl)) ?_
                              refine p_gstep (j := 33) (t := 102) (by exact rfl) (by exact rfl) (by exact rfl) (et (gS rfl g0) rfl) rfl (y_nil (et g0 rfl)) ?_
                              refine p_gstep (j := 33) (t := 102) (by exact rfl) (by exact rfl) (by exact rfl) (et (gS rfl (gS rfl g0)) rfl) rfl (y_fld fld_75_0 (et g0 rfl)) ?_
                              refine p_gstep (j := 33) (t := 102) (by exact rfl) (by exact rfl) (by exact rfl) (et (gS rfl (gS rfl (gS rfl g0))) rfl) rfl (y_load1 one_59 (et g0 rfl) (atXLP)) ?_
                              refine p_gstep (j := 33) (t := 102) (by exact rfl) (by exact rfl) (by exact rfl) (et (gS rfl (gS rfl (gS rfl (gS rfl g0)))) rfl) rfl (y_moveV (et (gS rfl (gS rfl (gS rfl (gS rfl (gS rfl (gS rfl (gS rfl (gS rfl (gS rfl (gS rfl (gS rfl (gS rfl (gS rfl (gS rfl (gS rfl (gS rfl (gS rfl (gS rfl (gS rfl (gS rfl (gS rfl (gS rfl (gS rfl (gS rfl (gS rfl (gS rfl (gS rfl (gS rfl (gS rfl (gS rfl (gS rfl (gS rfl (gS rfl (gS rfl (gS rfl (gS rfl (gS rfl (gS rfl (gS rfl (gS rfl (gS rfl (gS rfl (gS rfl g0))))))))))))))))))))))))))))))))))))))))))) rfl)) ?_
                              refine p_geff (j := 33) (t := 102) (by exact rfl) (by exact rfl) (by exact rfl) (et (gS rfl (gS rfl (gS rfl (gS rfl (gS rfl g0))))) rfl) rfl (e_callV cal_308 (aC (et (gS rfl g0) rfl) (aC (et g0 rfl) aN)) (v_refundUp hX.ex.vl hX.ex.ok (sPlus (triAt s.start f.self (argN f.stack 0)) (slotAt (acctAt s.now.accts f.self).slots (argN f.stack 0)) (argN f.stack 1)) (by rw [hX.ref]; show s1.now.refund - (sMinus (triAt s.start f.self (argN f.stack 0)) (slotAt (acctAt s.now.accts f.self).slots (argN f.stack 0)) (argN f.stack 1)) + (sPlus (triAt s.start f.self (argN f.stack 0)) (slotAt (acctAt s.now.accts f.self).slots (argN f.stack 0)) (argN f.stack 1)) ≤ _; rw [hrf]; omega) (hX.jr (by decide)))) (fun v131 w131 h131 => ?_)
                              obtain ⟨rfl, cl131, cs131, V131, t131, ok131, js131⟩ := h131
                              have nc8 := (t131.col b8 k8.lt).trans nc8
                              have nc12 := (t131.col b12 k12.lt).trans nc12
                              have nc13 := (t131.col b13 k13.lt).trans nc13
                              have nc102 := (t131.col b102 k102.lt).trans nc102
                              have kp131 := hX.ex.vl.kC
                              replace k8 := k8.ch t131.go.ch (by intro hm; (have e0 := hm); omega)
                              replace k12 := k12.ch t131.go.ch (by intro hm; (have e0 := hm); omega)
                              replace k13 := k13.ch t131.go.ch (by intro hm; (have e0 := hm); omega)
                              replace k102 := k102.ch t131.go.ch (by intro hm; (have e0 := hm); omega)
                              replace hX := (hX.ut t131 ok131 js131)
                              replace U := U.cc t131.go.ch (by intro b hb; exact .inl trivial)
                              have cq9 := SU.ch.size
                              replace SU := SU.xc t131 kp131 (hX.ex.vl.c1 hX.ex.lx.pS rfl) (by intro b hlt hb; have h9 := cq b hlt; have e0 := hb; first | omega | (dsimp only at e0; omega))
                              replace cq := cq_step cq t131.col cq9
                              refine ⟨.inr SU, ?_⟩
                              refine p_gstep (j := 33) (t := 102) (by exact rfl) (by exact rfl) (by exact rfl) (et (gS rfl (gS rfl (gS rfl (gS rfl (gS rfl (gS rfl g0)))))) rfl) rfl (y_not (et g0 rfl)) ?_
                              refine p_gstep (j := 30) (t := 99) (by exact rfl) (by exact rfl) (by exact rfl) (et (gS rfl (gS rfl (gS rfl (gS rfl (gS rfl (gS rfl (gS rfl (gS rfl (gS rfl (gS rfl (gS rfl g0))))))))))) rfl) rfl (y_pickT (et (gS rfl (gS rfl (gS rfl (gS rfl (gS rfl (gS rfl (gS rfl g0))))))) rfl) (et g0 rfl)) ?_
                              refine p_step (by exact rfl) (y_pickF (et (gS rfl (gS rfl (gS rfl (gS rfl (gS rfl (gS rfl (gS rfl (gS rfl (gS rfl (gS rfl (gS rfl (gS rfl g0)))))))))))) rfl) (et g0 rfl)) ?_
                              refine p_nil ?_
                              refine hK107 _ _ ?_
                              refine fg3 0 2 111 (gS rfl (gS rfl (gS rfl (gS rfl (gS rfl (gS rfl (gS rfl (gS rfl (gS rfl (gS rfl (gS rfl (gS rfl (gS rfl (gS rfl (gS rfl (gS rfl (gS rfl (gS rfl (gS rfl (gS rfl (gS rfl (gS rfl (gS rfl (gS rfl (gS rfl (gS rfl (gS rfl (gS rfl (gS rfl (gS rfl (gS rfl (gS rfl (gS rfl (gS rfl (gS rfl (gS rfl (gS rfl (gS rfl (gS rfl (gS rfl (gS rfl (gS rfl (gS rfl (gS rfl (gS rfl (gS rfl (gS rfl (gS rfl (gS rfl (gS rfl (gS rfl (gS rfl (gS rfl g0))))))))))))))))))))))))))))))))))))))))))))))))))))) (gS rfl (gS rfl (gS rfl (gS rfl (gS rfl (gS rfl (gS rfl (gS rfl (gS rfl (gS rfl (gS rfl (gS rfl (gS rfl (gS rfl (gS rfl (gS rfl (gS rfl (gS rfl (gS rfl (gS rfl (gS rfl (gS rfl (gS rfl (gS rfl (gS rfl (gS rfl (gS rfl (gS rfl (gS rfl (gS rfl (gS rfl (gS rfl (gS rfl (gS rfl (gS rfl (gS rfl (gS rfl (gS rfl (gS rfl (gS rfl (gS rfl (gS rfl (gS rfl (gS rfl (gS rfl (gS rfl (gS rfl (gS rfl (gS rfl (gS rfl (gS rfl (gS rfl g0)))))))))))))))))))))))))))))))))))))))))))))))))))) g0 (fun g => ?_)
                              refine c_false (et g0 rfl) (by rfl) ?_
                              refine c_skip ?_
                              refine hK106 _ _ ?_
                              refine fg2 0 2 (gS rfl (gS rfl g0)) (gS rfl g0) (fun g => ?_)
                              exact (by
                                refine c_region ?_
                                refine l_step (y_moveV (et (gS rfl g0) rfl)) ?_
                                refine l_step (y_moveV (et (gS rfl g0) rfl)) ?_
                                refine l_step (y_bld bN bld65_z) ?_
                                replace hX := hX.done (W := { s1.now with refund := s1.now.refund - (sMinus (triAt s.start f.self (argN f.stack 0)) (slotAt (acctAt s.now.accts f.self).slots (argN f.stack 0)) (argN f.stack 1)) + (sPlus (triAt s.start f.self (argN f.stack 0)) (slotAt (acctAt s.now.accts f.self).slots (argN f.stack 0)) (argN f.stack 1)), accts := putA s1.now.accts (setSlots (acctAt s1.now.accts f.self) (putS (acctAt s1.now.accts f.self).slots (argN f.stack 0) (argN f.stack 1))) }) (c' := c') (ay_slot { s1.now with refund := s1.now.refund - (sMinus (triAt s.start f.self (argN f.stack 0)) (slotAt (acctAt s.now.accts f.self).slots (argN f.stack 0)) (argN f.stack 1)) + (sPlus (triAt s.start f.self (argN f.stack 0)) (slotAt (acctAt s.now.accts f.self).slots (argN f.stack 0)) (argN f.stack 1)) } f.self (argN f.stack 0) (argN f.stack 1)) (by omega) (by show s1.now.refund - (sMinus (triAt s.start f.self (argN f.stack 0)) (slotAt (acctAt s.now.accts f.self).slots (argN f.stack 0)) (argN f.stack 1)) + (sPlus (triAt s.start f.self (argN f.stack 0)) (slotAt (acctAt s.now.accts f.self).slots (argN f.stack 0)) (argN f.stack 1)) + 200 * c' ≤ s1.now.refund + 200 * c1; omega)
                                refine l_eff (e_callV cal_259 (aC (et (gS rfl (gS rfl g0)) rfl) (aC (et (gS rfl g0) rfl) (aC (v := .int .u16 ((2 : Nat) : Int)) rfl (aC rfl (aC (et g0 rfl) (aC (v := .int .u16 ((1 : Nat) : Int)) rfl aN)))))) (m_settle0 hX.ex hsf hph1 rfl 2 0 1 (by omega) (by decide) (by omega))) (fun v133 w133 h133 => ?_)
                                obtain ⟨rfl, cs133, y133⟩ := h133
                                replace k8 := k8.ch y133.et.go.ch (by intro hm; (have e0 := hm); omega)
                                replace k12 := k12.ch y133.et.go.ch (by intro hm; (have e0 := hm); omega)
                                replace k13 := k13.ch y133.et.go.ch (by intro hm; (have e0 := hm); omega)
                                replace k102 := k102.ch y133.et.go.ch (by intro hm; (have e0 := hm); omega)
                                replace hX := hX.trans y133
                                replace U := U.cc y133.et.go.ch (by intro b hb; exact .inl trivial)
                                refine l_nil ?_
                                refine end0 rfl ?_
                                rw [hs1] at hX
                                exact ⟨rfl, _, _, _, hX⟩)
                            · skip
                              have hp9 : (sPlus (triAt s.start f.self (argN f.stack 0)) (slotAt (acctAt s.now.accts f.self).slots (argN f.stack 0)) (argN f.stack 1)) = 0 := by have := of_decide_eq_false q130; omega
                              replace hX := hX.ut0 hp9
                              refine p_gskip (j := 33) (t := 102) (by exact rfl) (by exact rfl) (by exact rfl) (et g0 rfl) rfl rfl ?_
                              refine p_gskip (j := 33) (t := 102) (by exact rfl) (by exact rfl) (by exact rfl) (et (gS rfl g0) rfl) rfl rfl ?_
                              refine p_gskip (j := 33) (t := 102) (by exact rfl) (by exact rfl) (by exact rfl) (et (gS rfl (gS rfl g0)) rfl) rfl rfl ?_
                              refine p_gskip (j := 33) (t := 102) (by exact rfl) (by exact rfl) (by exact rfl) (et (gS rfl (gS rfl (gS rfl g0))) rfl) rfl rfl ?_
                              refine p_gskip (j := 33) (t := 102) (by exact rfl) (by exact rfl) (by exact rfl) (et (gS rfl (gS rfl (gS rfl (gS rfl g0)))) rfl) rfl rfl ?_
                              refine p_geskip (j := 33) (t := 102) (by exact rfl) (by exact rfl) (by exact rfl) (et (gS rfl (gS rfl (gS rfl (gS rfl (gS rfl g0))))) rfl) rfl rfl ⟨.inr SU, ?_⟩
                              refine p_gskip (j := 33) (t := 102) (by exact rfl) (by exact rfl) (by exact rfl) (et (gS rfl (gS rfl (gS rfl (gS rfl (gS rfl (gS rfl g0)))))) rfl) rfl rfl ?_
                              refine p_gstep (j := 30) (t := 99) (by exact rfl) (by exact rfl) (by exact rfl) (et (gS rfl (gS rfl (gS rfl (gS rfl (gS rfl (gS rfl (gS rfl (gS rfl (gS rfl (gS rfl (gS rfl g0))))))))))) rfl) rfl (y_pickF (et (gS rfl (gS rfl (gS rfl (gS rfl (gS rfl (gS rfl (gS rfl g0))))))) rfl) rfl) ?_
                              refine p_step (by exact rfl) (y_pickF (et (gS rfl (gS rfl (gS rfl (gS rfl (gS rfl (gS rfl (gS rfl (gS rfl (gS rfl (gS rfl (gS rfl (gS rfl g0)))))))))))) rfl) (et g0 rfl)) ?_
                              refine p_nil ?_
                              refine hK107 _ _ ?_
                              refine fg3 0 2 111 (gS rfl (gS rfl (gS rfl (gS rfl (gS rfl (gS rfl (gS rfl (gS rfl (gS rfl (gS rfl (gS rfl (gS rfl (gS rfl (gS rfl (gS rfl (gS rfl (gS rfl (gS rfl (gS rfl (gS rfl (gS rfl (gS rfl (gS rfl (gS rfl (gS rfl (gS rfl (gS rfl (gS rfl (gS rfl (gS rfl (gS rfl (gS rfl (gS rfl (gS rfl (gS rfl (gS rfl (gS rfl (gS rfl (gS rfl (gS rfl (gS rfl (gS rfl (gS rfl (gS rfl (gS rfl (gS rfl (gS rfl (gS rfl (gS rfl (gS rfl (gS rfl (gS rfl (gS rfl g0))))))))))))))))))))))))))))))))))))))))))))))))))))) (gS rfl (gS rfl (gS rfl (gS rfl (gS rfl (gS rfl (gS rfl (gS rfl (gS rfl (gS rfl (gS rfl (gS rfl (gS rfl (gS rfl (gS rfl (gS rfl (gS rfl (gS rfl (gS rfl (gS rfl (gS rfl (gS rfl (gS rfl (gS rfl (gS rfl (gS rfl (gS rfl (gS rfl (gS rfl (gS rfl (gS rfl (gS rfl (gS rfl (gS rfl (gS rfl (gS rfl (gS rfl (gS rfl (gS rfl (gS rfl (gS rfl (gS rfl (gS rfl (gS rfl (gS rfl (gS rfl (gS rfl (gS rfl (gS rfl (gS rfl (gS rfl (gS rfl g0)))))))))))))))))))))))))))))))))))))))))))))))))))) g0 (fun g => ?_)
                              refine c_false (et g0 rfl) rfl ?_
                              refine c_skip ?_
                              refine hK106 _ _ ?_
                              refine fg2 0 2 (gS rfl (gS rfl g0)) (gS rfl g0) (fun g => ?_)
                              exact (by
                                refine c_region ?_
                                refine l_step (y_moveV (et (gS rfl g0) rfl)) ?_
                                refine l_step (y_moveV (et (gS rfl g0) rfl)) ?_
                                refine l_step (y_bld bN bld65_z) ?_
                                replace hX := hX.done (W := { s1.now with refund := s1.now.refund - (sMinus (triAt s.start f.self (argN f.stack 0)) (slotAt (acctAt s.now.accts f.self).slots (argN f.stack 0)) (argN f.stack 1)) + (sPlus (triAt s.start f.self (argN f.stack 0)) (slotAt (acctAt s.now.accts f.self).slots (argN f.stack 0)) (argN f.stack 1)), accts := putA s1.now.accts (setSlots (acctAt s1.now.accts f.self) (putS (acctAt s1.now.accts f.self).slots (argN f.stack 0) (argN f.stack 1))) }) (c' := c') (ay_slot { s1.now with refund := s1.now.refund - (sMinus (triAt s.start f.self (argN f.stack 0)) (slotAt (acctAt s.now.accts f.self).slots (argN f.stack 0)) (argN f.stack 1)) + (sPlus (triAt s.start f.self (argN f.stack 0)) (slotAt (acctAt s.now.accts f.self).slots (argN f.stack 0)) (argN f.stack 1)) } f.self (argN f.stack 0) (argN f.stack 1)) (by omega) (by show s1.now.refund - (sMinus (triAt s.start f.self (argN f.stack 0)) (slotAt (acctAt s.now.accts f.self).slots (argN f.stack 0)) (argN f.stack 1)) + (sPlus (triAt s.start f.self (argN f.stack 0)) (slotAt (acctAt s.now.accts f.self).slots (argN f.stack 0)) (argN f.stack 1)) + 200 * c' ≤ s1.now.refund + 200 * c1; omega)
                                refine l_eff (e_callV cal_259 (aC (et (gS rfl (gS rfl g0)) rfl) (aC (et (gS rfl g0) rfl) (aC (v := .int .u16 ((2 : Nat) : Int)) rfl (aC rfl (aC (et g0 rfl) (aC (v := .int .u16 ((1 : Nat) : Int)) rfl aN)))))) (m_settle0 hX.ex hsf hph1 rfl 2 0 1 (by omega) (by decide) (by omega))) (fun v135 w135 h135 => ?_)
                                obtain ⟨rfl, cs135, y135⟩ := h135
                                replace k8 := k8.ch y135.et.go.ch (by intro hm; (have e0 := hm); omega)
                                replace k12 := k12.ch y135.et.go.ch (by intro hm; (have e0 := hm); omega)
                                replace k13 := k13.ch y135.et.go.ch (by intro hm; (have e0 := hm); omega)
                                replace k102 := k102.ch y135.et.go.ch (by intro hm; (have e0 := hm); omega)
                                replace hX := hX.trans y135
                                replace U := U.cc y135.et.go.ch (by intro b hb; exact .inl trivial)
                                refine l_nil ?_
                                refine end0 rfl ?_
                                rw [hs1] at hX
                                exact ⟨rfl, _, _, _, hX⟩)
                        · skip
                          have hm9 : (sMinus (triAt s.start f.self (argN f.stack 0)) (slotAt (acctAt s.now.accts f.self).slots (argN f.stack 0)) (argN f.stack 1)) = 0 := by have := of_decide_eq_false q127; omega
                          replace hX := hX.dn0 hm9
                          refine p_gskip (j := 20) (t := 89) (by exact rfl) (by exact rfl) (by exact rfl) (et g0 rfl) rfl rfl ?_
                          refine p_gskip (j := 20) (t := 89) (by exact rfl) (by exact rfl) (by exact rfl) (et (gS rfl g0) rfl) rfl rfl ?_
                          refine p_gskip (j := 20) (t := 89) (by exact rfl) (by exact rfl) (by exact rfl) (et (gS rfl (gS rfl g0)) rfl) rfl rfl ?_
                          refine p_gskip (j := 20) (t := 89) (by exact rfl) (by exact rfl) (by exact rfl) (et (gS rfl (gS rfl (gS rfl g0))) rfl) rfl rfl ?_
                          refine p_gskip (j := 20) (t := 89) (by exact rfl) (by exact rfl) (by exact rfl) (et (gS rfl (gS rfl (gS rfl (gS rfl g0)))) rfl) rfl rfl ?_
                          refine p_geskip (j := 20) (t := 89) (by exact rfl) (by exact rfl) (by exact rfl) (et (gS rfl (gS rfl (gS rfl (gS rfl (gS rfl g0))))) rfl) rfl rfl ⟨.inr SU, ?_⟩
                          refine p_gskip (j := 20) (t := 89) (by exact rfl) (by exact rfl) (by exact rfl) (et (gS rfl (gS rfl (gS rfl (gS rfl (gS rfl (gS rfl g0)))))) rfl) rfl rfl ?_
                          refine p_gstep (j := 17) (t := 86) (by exact rfl) (by exact rfl) (by exact rfl) (et (gS rfl (gS rfl (gS rfl (gS rfl (gS rfl (gS rfl (gS rfl (gS rfl (gS rfl (gS rfl (gS rfl g0))))))))))) rfl) rfl (y_pickF (et (gS rfl (gS rfl (gS rfl (gS rfl (gS rfl (gS rfl (gS rfl g0))))))) rfl) rfl) ?_
                          refine p_step (by exact rfl) (y_pickF (et (gS rfl (gS rfl (gS rfl (gS rfl (gS rfl (gS rfl (gS rfl (gS rfl (gS rfl (gS rfl (gS rfl (gS rfl g0)))))))))))) rfl) (et g0 rfl)) ?_
                          refine p_step (by exact rfl) (y_moveV (et g0 rfl)) ?_
                          refine p_gstep (j := 30) (t := 99) (by exact rfl) (by exact rfl) (by exact rfl) (et g0 rfl) rfl (y_moveV (et (gS rfl (gS rfl (gS rfl (gS rfl (gS rfl (gS rfl (gS rfl (gS rfl (gS rfl (gS rfl (gS rfl (gS rfl (gS rfl (gS rfl (gS rfl (gS rfl (gS rfl (gS rfl (gS rfl (gS rfl (gS rfl (gS rfl (gS rfl (gS rfl (gS rfl (gS rfl (gS rfl (gS rfl (gS rfl (gS rfl (gS rfl (gS rfl (gS rfl (gS rfl g0)))))))))))))))))))))))))))))))))) rfl)) ?_
                          refine p_gstep (j := 30) (t := 99) (by exact rfl) (by exact rfl) (by exact rfl) (et (gS rfl g0) rfl) rfl (y_gtr (et g0 rfl) rfl) ?_
                          refine p_gstep (j := 30) (t := 99) (by exact rfl) (by exact rfl) (by exact rfl) (et (gS rfl (gS rfl g0)) rfl) rfl (y_moveV (et g0 rfl)) ?_
                          refine gsplitP (i := 102) g0 (fun q136 => ?_) (fun q136 => ?_)
                          · skip
                            have hp9 : 0 < (sPlus (triAt s.start f.self (argN f.stack 0)) (slotAt (acctAt s.now.accts f.self).slots (argN f.stack 0)) (argN f.stack 1)) := by have := of_decide_eq_true q136; omega
                            refine p_gstep (j := 33) (t := 102) (by exact rfl) (by exact rfl) (by exact rfl) (et g0 rfl) rfl (y_moveV (et (gS rfl (gS rfl (gS rfl (gS rfl (gS rfl (gS rfl (gS rfl (gS rfl (gS rfl (gS rfl (gS rfl (gS rfl (gS rfl (gS rfl (gS rfl (gS rfl (gS rfl (gS rfl (gS rfl (gS rfl (gS rfl (gS rfl (gS rfl (gS rfl (gS rfl (gS rfl (gS rfl (gS rfl (gS rfl (gS rfl (gS rfl (gS rfl (gS rfl (gS rfl (gS rfl (gS rfl (gS rfl (gS rfl (gS rfl (gS rfl (gS rfl (gS rfl (gS rfl g0))))))))))))))))))))))))))))))))))))))))))) rfl)) ?_
                            refine p_gstep (j := 33) (t := 102) (by exact rfl) (by exact rfl) (by exact rfl) (et (gS rfl g0) rfl) rfl (y_nil (et g0 rfl)) ?_
                            refine p_gstep (j := 33) (t := 102) (by exact rfl) (by exact rfl) (by exact rfl) (et (gS rfl (gS rfl g0)) rfl) rfl (y_fld fld_75_0 (et g0 rfl)) ?_
                            refine p_gstep (j := 33) (t := 102) (by exact rfl) (by exact rfl) (by exact rfl) (et (gS rfl (gS rfl (gS rfl g0))) rfl) rfl (y_load1 one_59 (et g0 rfl) (atXLP)) ?_
                            refine p_gstep (j := 33) (t := 102) (by exact rfl) (by exact rfl) (by exact rfl) (et (gS rfl (gS rfl (gS rfl (gS rfl g0)))) rfl) rfl (y_moveV (et (gS rfl (gS rfl (gS rfl (gS rfl (gS rfl (gS rfl (gS rfl (gS rfl (gS rfl (gS rfl (gS rfl (gS rfl (gS rfl (gS rfl (gS rfl (gS rfl (gS rfl (gS rfl (gS rfl (gS rfl (gS rfl (gS rfl (gS rfl (gS rfl (gS rfl (gS rfl (gS rfl (gS rfl (gS rfl (gS rfl (gS rfl (gS rfl (gS rfl (gS rfl (gS rfl (gS rfl (gS rfl (gS rfl (gS rfl (gS rfl (gS rfl (gS rfl g0)))))))))))))))))))))))))))))))))))))))))) rfl)) ?_
                            refine p_geff (j := 33) (t := 102) (by exact rfl) (by exact rfl) (by exact rfl) (et (gS rfl (gS rfl (gS rfl (gS rfl (gS rfl g0))))) rfl) rfl (e_callV cal_308 (aC (et (gS rfl g0) rfl) (aC (et g0 rfl) aN)) (v_refundUp hX.ex.vl hX.ex.ok (sPlus (triAt s.start f.self (argN f.stack 0)) (slotAt (acctAt s.now.accts f.self).slots (argN f.stack 0)) (argN f.stack 1)) (by rw [hX.ref]; show s1.now.refund - (sMinus (triAt s.start f.self (argN f.stack 0)) (slotAt (acctAt s.now.accts f.self).slots (argN f.stack 0)) (argN f.stack 1)) + (sPlus (triAt s.start f.self (argN f.stack 0)) (slotAt (acctAt s.now.accts f.self).slots (argN f.stack 0)) (argN f.stack 1)) ≤ _; rw [hrf]; omega) (hX.jr (by decide)))) (fun v137 w137 h137 => ?_)
                            obtain ⟨rfl, cl137, cs137, V137, t137, ok137, js137⟩ := h137
                            have nc8 := (t137.col b8 k8.lt).trans nc8
                            have nc12 := (t137.col b12 k12.lt).trans nc12
                            have nc13 := (t137.col b13 k13.lt).trans nc13
                            have nc102 := (t137.col b102 k102.lt).trans nc102
                            have kp137 := hX.ex.vl.kC
                            replace k8 := k8.ch t137.go.ch (by intro hm; (have e0 := hm); omega)
                            replace k12 := k12.ch t137.go.ch (by intro hm; (have e0 := hm); omega)
                            replace k13 := k13.ch t137.go.ch (by intro hm; (have e0 := hm); omega)
                            replace k102 := k102.ch t137.go.ch (by intro hm; (have e0 := hm); omega)
                            replace hX := (hX.ut t137 ok137 js137)
                            replace U := U.cc t137.go.ch (by intro b hb; exact .inl trivial)
                            have cq9 := SU.ch.size
                            replace SU := SU.xc t137 kp137 (hX.ex.vl.c1 hX.ex.lx.pS rfl) (by intro b hlt hb; have h9 := cq b hlt; have e0 := hb; first | omega | (dsimp only at e0; omega))
                            replace cq := cq_step cq t137.col cq9
                            refine ⟨.inr SU, ?_⟩
                            refine p_gstep (j := 33) (t := 102) (by exact rfl) (by exact rfl) (by exact rfl) (et (gS rfl (gS rfl (gS rfl (gS rfl (gS rfl (gS rfl g0)))))) rfl) rfl (y_not (et g0 rfl)) ?_
                            refine p_gstep (j := 30) (t := 99) (by exact rfl) (by exact rfl) (by exact rfl) (et (gS rfl (gS rfl (gS rfl (gS rfl (gS rfl (gS rfl (gS rfl (gS rfl (gS rfl (gS rfl (gS rfl g0))))))))))) rfl) rfl (y_pickT (et (gS rfl (gS rfl (gS rfl (gS rfl (gS rfl (gS rfl (gS rfl g0))))))) rfl) (et g0 rfl)) ?_
                            refine p_step (by exact rfl) (y_pickF (et (gS rfl (gS rfl (gS rfl (gS rfl (gS rfl (gS rfl (gS rfl (gS rfl (gS rfl (gS rfl (gS rfl (gS rfl g0)))))))))))) rfl) (et g0 rfl)) ?_
                            refine p_nil ?_
                            refine hK107 _ _ ?_
                            refine fg3 0 2 111 (gS rfl (gS rfl (gS rfl (gS rfl (gS rfl (gS rfl (gS rfl (gS rfl (gS rfl (gS rfl (gS rfl (gS rfl (gS rfl (gS rfl (gS rfl (gS rfl (gS rfl (gS rfl (gS rfl (gS rfl (gS rfl (gS rfl (gS rfl (gS rfl (gS rfl (gS rfl (gS rfl (gS rfl (gS rfl (gS rfl (gS rfl (gS rfl (gS rfl (gS rfl (gS rfl (gS rfl (gS rfl (gS rfl (gS rfl (gS rfl (gS rfl (gS rfl (gS rfl (gS rfl (gS rfl (gS rfl (gS rfl (gS rfl (gS rfl (gS rfl (gS rfl (gS rfl g0)))))))))))))))))))))))))))))))))))))))))))))))))))) (gS rfl (gS rfl (gS rfl (gS rfl (gS rfl (gS rfl (gS rfl (gS rfl (gS rfl (gS rfl (gS rfl (gS rfl (gS rfl (gS rfl (gS rfl (gS rfl (gS rfl (gS rfl (gS rfl (gS rfl (gS rfl (gS rfl (gS rfl (gS rfl (gS rfl (gS rfl (gS rfl (gS rfl (gS rfl (gS rfl (gS rfl (gS rfl (gS rfl (gS rfl (gS rfl (gS rfl (gS rfl (gS rfl (gS rfl (gS rfl (gS rfl (gS rfl (gS rfl (gS rfl (gS rfl (gS rfl (gS rfl (gS rfl (gS rfl (gS rfl (gS rfl g0))))))))))))))))))))))))))))))))))))))))))))))))))) g0 (fun g => ?_)
                            refine c_false (et g0 rfl) (by rfl) ?_
                            refine c_skip ?_
                            refine hK106 _ _ ?_
                            refine fg2 0 2 (gS rfl (gS rfl g0)) (gS rfl g0) (fun g => ?_)
                            exact (by
                              refine c_region ?_
                              refine l_step (y_moveV (et (gS rfl g0) rfl)) ?_
                              refine l_step (y_moveV (et (gS rfl g0) rfl)) ?_
                              refine l_step (y_bld bN bld65_z) ?_
                              replace hX := hX.done (W := { s1.now with refund := s1.now.refund - (sMinus (triAt s.start f.self (argN f.stack 0)) (slotAt (acctAt s.now.accts f.self).slots (argN f.stack 0)) (argN f.stack 1)) + (sPlus (triAt s.start f.self (argN f.stack 0)) (slotAt (acctAt s.now.accts f.self).slots (argN f.stack 0)) (argN f.stack 1)), accts := putA s1.now.accts (setSlots (acctAt s1.now.accts f.self) (putS (acctAt s1.now.accts f.self).slots (argN f.stack 0) (argN f.stack 1))) }) (c' := c') (ay_slot { s1.now with refund := s1.now.refund - (sMinus (triAt s.start f.self (argN f.stack 0)) (slotAt (acctAt s.now.accts f.self).slots (argN f.stack 0)) (argN f.stack 1)) + (sPlus (triAt s.start f.self (argN f.stack 0)) (slotAt (acctAt s.now.accts f.self).slots (argN f.stack 0)) (argN f.stack 1)) } f.self (argN f.stack 0) (argN f.stack 1)) (by omega) (by show s1.now.refund - (sMinus (triAt s.start f.self (argN f.stack 0)) (slotAt (acctAt s.now.accts f.self).slots (argN f.stack 0)) (argN f.stack 1)) + (sPlus (triAt s.start f.self (argN f.stack 0)) (slotAt (acctAt s.now.accts f.self).slots (argN f.stack 0)) (argN f.stack 1)) + 200 * c' ≤ s1.now.refund + 200 * c1; omega)
                              refine l_eff (e_callV cal_259 (aC (et (gS rfl (gS rfl g0)) rfl) (aC (et (gS rfl g0) rfl) (aC (v := .int .u16 ((2 : Nat) : Int)) rfl (aC rfl (aC (et g0 rfl) (aC (v := .int .u16 ((1 : Nat) : Int)) rfl aN)))))) (m_settle0 hX.ex hsf hph1 rfl 2 0 1 (by omega) (by decide) (by omega))) (fun v139 w139 h139 => ?_)
                              obtain ⟨rfl, cs139, y139⟩ := h139
                              replace k8 := k8.ch y139.et.go.ch (by intro hm; (have e0 := hm); omega)
                              replace k12 := k12.ch y139.et.go.ch (by intro hm; (have e0 := hm); omega)
                              replace k13 := k13.ch y139.et.go.ch (by intro hm; (have e0 := hm); omega)
                              replace k102 := k102.ch y139.et.go.ch (by intro hm; (have e0 := hm); omega)
                              replace hX := hX.trans y139
                              replace U := U.cc y139.et.go.ch (by intro b hb; exact .inl trivial)
                              refine l_nil ?_
                              refine end0 rfl ?_
                              rw [hs1] at hX
                              exact ⟨rfl, _, _, _, hX⟩)
                          · skip
                            have hp9 : (sPlus (triAt s.start f.self (argN f.stack 0)) (slotAt (acctAt s.now.accts f.self).slots (argN f.stack 0)) (argN f.stack 1)) = 0 := by have := of_decide_eq_false q136; omega
                            replace hX := hX.ut0 hp9
                            refine p_gskip (j := 33) (t := 102) (by exact rfl) (by exact rfl) (by exact rfl) (et g0 rfl) rfl rfl ?_
                            refine p_gskip (j := 33) (t := 102) (by exact rfl) (by exact rfl) (by exact rfl) (et (gS rfl g0) rfl) rfl rfl ?_
                            refine p_gskip (j := 33) (t := 102) (by exact rfl) (by exact rfl) (by exact rfl) (et (gS rfl (gS rfl g0)) rfl) rfl rfl ?_
                            refine p_gskip (j := 33) (t := 102) (by exact rfl) (by exact rfl) (by exact rfl) (et (gS rfl (gS rfl (gS rfl g0))) rfl) rfl rfl ?_
                            refine p_gskip (j := 33) (t := 102) (by exact rfl) (by exact rfl) (by exact rfl) (et (gS rfl (gS rfl (gS rfl (gS rfl g0)))) rfl) rfl rfl ?_
                            refine p_geskip (j := 33) (t := 102) (by exact rfl) (by exact rfl) (by exact rfl) (et (gS rfl (gS rfl (gS rfl (gS rfl (gS rfl g0))))) rfl) rfl rfl ⟨.inr SU, ?_⟩
                            refine p_gskip (j := 33) (t := 102) (by exact rfl) (by exact rfl) (by exact rfl) (et (gS rfl (gS rfl (gS rfl (gS rfl (gS rfl (gS rfl g0)))))) rfl) rfl rfl ?_
                            refine p_gstep (j := 30) (t := 99) (by exact rfl) (by exact rfl) (by exact rfl) (et (gS rfl (gS rfl (gS rfl (gS rfl (gS rfl (gS rfl (gS rfl (gS rfl (gS rfl (gS rfl (gS rfl g0))))))))))) rfl) rfl (y_pickF (et (gS rfl (gS rfl (gS rfl (gS rfl (gS rfl (gS rfl (gS rfl g0))))))) rfl) rfl) ?_
                            refine p_step (by exact rfl) (y_pickF (et (gS rfl (gS rfl (gS rfl (gS rfl (gS rfl (gS rfl (gS rfl (gS rfl (gS rfl (gS rfl (gS rfl (gS rfl g0)))))))))))) rfl) (et g0 rfl)) ?_
                            refine p_nil ?_
                            refine hK107 _ _ ?_
                            refine fg3 0 2 111 (gS rfl (gS rfl (gS rfl (gS rfl (gS rfl (gS rfl (gS rfl (gS rfl (gS rfl (gS rfl (gS rfl (gS rfl (gS rfl (gS rfl (gS rfl (gS rfl (gS rfl (gS rfl (gS rfl (gS rfl (gS rfl (gS rfl (gS rfl (gS rfl (gS rfl (gS rfl (gS rfl (gS rfl (gS rfl (gS rfl (gS rfl (gS rfl (gS rfl (gS rfl (gS rfl (gS rfl (gS rfl (gS rfl (gS rfl (gS rfl (gS rfl (gS rfl (gS rfl (gS rfl (gS rfl (gS rfl (gS rfl (gS rfl (gS rfl (gS rfl (gS rfl (gS rfl g0)))))))))))))))))))))))))))))))))))))))))))))))))))) (gS rfl (gS rfl (gS rfl (gS rfl (gS rfl (gS rfl (gS rfl (gS rfl (gS rfl (gS rfl (gS rfl (gS rfl (gS rfl (gS rfl (gS rfl (gS rfl (gS rfl (gS rfl (gS rfl (gS rfl (gS rfl (gS rfl (gS rfl (gS rfl (gS rfl (gS rfl (gS rfl (gS rfl (gS rfl (gS rfl (gS rfl (gS rfl (gS rfl (gS rfl (gS rfl (gS rfl (gS rfl (gS rfl (gS rfl (gS rfl (gS rfl (gS rfl (gS rfl (gS rfl (gS rfl (gS rfl (gS rfl (gS rfl (gS rfl (gS rfl (gS rfl g0))))))))))))))))))))))))))))))))))))))))))))))))))) g0 (fun g => ?_)
                            refine c_false (et g0 rfl) rfl ?_
                            refine c_skip ?_
                            refine hK106 _ _ ?_
                            refine fg2 0 2 (gS rfl (gS rfl g0)) (gS rfl g0) (fun g => ?_)
                            exact (by
                              refine c_region ?_
                              refine l_step (y_moveV (et (gS rfl g0) rfl)) ?_
                              refine l_step (y_moveV (et (gS rfl g0) rfl)) ?_
                              refine l_step (y_bld bN bld65_z) ?_
                              replace hX := hX.done (W := { s1.now with refund := s1.now.refund - (sMinus (triAt s.start f.self (argN f.stack 0)) (slotAt (acctAt s.now.accts f.self).slots (argN f.stack 0)) (argN f.stack 1)) + (sPlus (triAt s.start f.self (argN f.stack 0)) (slotAt (acctAt s.now.accts f.self).slots (argN f.stack 0)) (argN f.stack 1)), accts := putA s1.now.accts (setSlots (acctAt s1.now.accts f.self) (putS (acctAt s1.now.accts f.self).slots (argN f.stack 0) (argN f.stack 1))) }) (c' := c') (ay_slot { s1.now with refund := s1.now.refund - (sMinus (triAt s.start f.self (argN f.stack 0)) (slotAt (acctAt s.now.accts f.self).slots (argN f.stack 0)) (argN f.stack 1)) + (sPlus (triAt s.start f.self (argN f.stack 0)) (slotAt (acctAt s.now.accts f.self).slots (argN f.stack 0)) (argN f.stack 1)) } f.self (argN f.stack 0) (argN f.stack 1)) (by omega) (by show s1.now.refund - (sMinus (triAt s.start f.self (argN f.stack 0)) (slotAt (acctAt s.now.accts f.self).slots (argN f.stack 0)) (argN f.stack 1)) + (sPlus (triAt s.start f.self (argN f.stack 0)) (slotAt (acctAt s.now.accts f.self).slots (argN f.stack 0)) (argN f.stack 1)) + 200 * c' ≤ s1.now.refund + 200 * c1; omega)
                              refine l_eff (e_callV cal_259 (aC (et (gS rfl (gS rfl g0)) rfl) (aC (et (gS rfl g0) rfl) (aC (v := .int .u16 ((2 : Nat) : Int)) rfl (aC rfl (aC (et g0 rfl) (aC (v := .int .u16 ((1 : Nat) : Int)) rfl aN)))))) (m_settle0 hX.ex hsf hph1 rfl 2 0 1 (by omega) (by decide) (by omega))) (fun v141 w141 h141 => ?_)
                              obtain ⟨rfl, cs141, y141⟩ := h141
                              replace k8 := k8.ch y141.et.go.ch (by intro hm; (have e0 := hm); omega)
                              replace k12 := k12.ch y141.et.go.ch (by intro hm; (have e0 := hm); omega)
                              replace k13 := k13.ch y141.et.go.ch (by intro hm; (have e0 := hm); omega)
                              replace k102 := k102.ch y141.et.go.ch (by intro hm; (have e0 := hm); omega)
                              replace hX := hX.trans y141
                              replace U := U.cc y141.et.go.ch (by intro b hb; exact .inl trivial)
                              refine l_nil ?_
                              refine end0 rfl ?_
                              rw [hs1] at hX
                              exact ⟨rfl, _, _, _, hX⟩))))))))))
end Go.Proofs.YgvaawGreat
