import Derived.Test.YgvaawGreatYL
set_option maxRecDepth 100000
set_option maxHeartbeats 4000000
set_option linter.unusedSimpArgs false
set_option linter.unusedVariables false
namespace Go.Proofs.YgvaawGreat
open Go
theorem BV.w32 {H : Store} {b x : Nat} (h : H b = some (bL (be 32 x)).toArray) : BV H (.slice (some ⟨b, 0, none⟩) 32 32) (be 32 x) := by
  have := BV.ofBlk (k := 0) h (be_lt _ _) (by rw [length_be]; decide)
  rw [length_be, List.drop_zero] at this
  exact this
theorem BV.w31 {H : Store} {b x : Nat} (h : H b = some (bL (be 32 x)).toArray) : BV H (.slice (some ⟨b, 0 + (31 : Int).toNat * 1, none⟩) (32 - (31 : Int).toNat) (32 - (31 : Int).toNat)) ((be 32 x).drop 31) := by
  have := BV.ofBlk (k := 31) h (be_lt _ _) (by rw [length_be]; decide)
  rw [length_be] at this
  exact this
theorem BV.one1 {H : Store} {v : Value} {l : List Nat} (h : BV H v l) : v.one1 = true := by
  obtain ⟨a, c, e, _⟩ := h.sv.val
  rw [e]; rfl
theorem log_cells {H : Store} {vt vd : Value} {a : Nat} {t d : List Nat} (h1 : LV P_word 32 H vt t) (h2 : BV H vd d) (ha : a < A160) : P_log H (bL (be 20 a) ++ [vt, vd]) ⟨a, t, d⟩ := ⟨vt, vd, rfl, ha, h1, h2⟩
theorem set20b {a : Nat} {x y u : Value} : spl (bL (be 20 a) ++ [x, y]).toArray 20 [u] = (bL (be 20 a) ++ [u, y]).toArray := by
  have h := spl_mid (bL (be 20 a)) x [y] u 20 (by rw [length_bL, length_be])
  simpa using h
theorem acctC {H : Store} {c : List Value} {A : YAcct} (h : P_acct H c A) : A.code.length ≤ 1099511627776 := by
  obtain ⟨vn, vb, vc, vs, h1, h2, h3, h4, h5, h6, h7, h8, h9⟩ := h
  omega
theorem LV.dropg {α : Type} {P : Cp α} {k n c m : Nat} {H : Store} {a : Option Addr} {xs : List α} (h : LV P k H (.slice a n c) xs) (hm : m ≤ xs.length) (h0 : 0 < xs.length) : ∃ b o, a = some ⟨b, o, none⟩ ∧ LV P k H (.slice (some (if c = m then ⟨b, o, none⟩ else ⟨b, o + m * k, none⟩)) (n - m) (c - m)) (xs.drop m) := by
  obtain ⟨cs, h1, h2, h3⟩ := h.ex
  have hck : ∀ q ∈ cs, q.length = k := fun q hq => by
    obtain ⟨j, hj, e⟩ := List.getElem_of_mem hq
    exact (h3 j q xs[j] (by rw [List.getElem?_eq_getElem hj, e]) (List.getElem?_eq_getElem (by omega))).1
  rcases h1.at' with ⟨e, hn⟩ | ⟨b, o, c', ds, e, g1, g2, g3, g4⟩
  · omega
  · cases e
    refine ⟨b, o, rfl, cs.drop m, ⟨?_, ?_⟩, by simp [h2], fun i q x hq hx => ?_⟩
    · rw [flen (fun q hq => hck q (List.mem_of_mem_drop hq)), List.length_drop, List.length_drop, h2]
    · rw [List.length_drop]
      by_cases hc : c = m
      · rw [if_pos hc]
        have e0 : xs.length - m = 0 := by omega
        rw [e0]
        refine .inr ⟨b, o, c - m, ds, rfl, Nat.zero_le _, by omega, g3, fun i v hv => ?_⟩
        rw [List.drop_of_length_le (by omega)] at hv
        simp at hv
      · rw [if_neg hc]
        refine .inr ⟨b, o + m * k, c - m, ds, rfl, by omega, by omega, g3, fun i v hv => ?_⟩
        rw [Nat.add_assoc]
        refine g4 (m * k + i) v ?_
        have hl : (cs.take m).flatten.length = m * k := by rw [flen (fun q hq => hck q (List.mem_of_mem_take hq)), List.length_take, Nat.min_eq_left (by omega)]
        rw [← List.take_append_drop m cs, List.flatten_append, List.getElem?_append_right (by omega), hl, show m * k + i - m * k = i by omega]
        exact hv
    · rw [List.getElem?_drop] at hq hx
      exact h3 _ q x hq hx
def effB (s : YSt) (f : YF) (o : Nat) : Bool := if o = 85 then stoOk s f else true
def effS (s : YSt) (f : YF) (o : Nat) (xs : List Nat) : YSt :=
  if o = 60 then { s with now := { s.now with warmA := withA s.now.warmA (opndN xs 0 % A160) } }
  else if o = 85 then (if stoOk s f = true then stoN s f (opndN xs 0) (opndN xs 1) else s)
  else if o = 93 then { s with now := { s.now with temps := putT s.now.temps f.self (opndN xs 0) (opndN xs 1) } }
  else if 160 ≤ o ∧ o ≤ 164 then { s with now := { s.now with logs := s.now.logs ++ [⟨f.self, xs.drop 2, rdN f.mem (opndN xs 0) (opndN xs 1)⟩] } }
  else s
def effM (s : YSt) (f : YF) (o : Nat) (xs : List Nat) : List Nat :=
  if o = 55 then cpN f.mem (opndN xs 0) f.input (opndN xs 1) (opndN xs 2)
  else if o = 57 then cpN f.mem (opndN xs 0) f.code (opndN xs 1) (opndN xs 2)
  else if o = 62 then cpN f.mem (opndN xs 0) s.ret (opndN xs 1) (opndN xs 2)
  else if o = 94 then cpN f.mem (opndN xs 0) f.mem (opndN xs 1) (opndN xs 2)
  else if o = 60 then cpN f.mem (opndN xs 1) (acctAt s.now.accts (opndN xs 0 % A160)).code (opndN xs 2) (opndN xs 3)
  else if o = 82 then wrN f.mem (opndN xs 0) (be 32 (opndN xs 1))
  else if o = 83 then wrN f.mem (opndN xs 0) ((be 32 (opndN xs 1)).drop 31)
  else f.mem
theorem yp_effect {w : World} {H : Store} (hF : Fz w H) (bs : Nat) (cs : Array Value) (s : YSt) (vf : Value) (kS : Blk w bs cs) (hs : SC H cs s vf) (bf o : Nat) (fs : Array Value) (f : YF) (vm : Value) (kF : Blk w bf fs) (hf : FC H fs o f vm) (bm : Nat) (kM : MB w bm vm f.mem) (lM : bm < w.heap.size) (q : Nat) (hq : q < 256) (nbS : ¬ H.has bs) (dSF : bs ≠ bf) (dMF : bm ≠ bf) (dSM : bs ≠ bm) (nbM : ¬ H.has bm) (rm : SRm s) {xga : Option Addr} {xgc : Nat} {xs : List Nat} (hX : LV P_nat 1 H (.slice xga xs.length xgc) xs) (hxn : xs.length < 1000) {ol : Option Nat} {vl : Value} (kL : LG w H ol vl s.now.logs) (hvl : cs[4]? = some vl) (dL : ∀ b, ol = some b → b < w.heap.size ∧ b ≠ bs ∧ b ≠ bf ∧ b ≠ bm) (nbL : ∀ b, ol = some b → ¬ H.has b) (hcp : q = 55 ∨ q = 57 ∨ q = 62 ∨ q = 94 → opndN xs 2 ≤ 1099511627776) (hcp2 : q = 60 → opndN xs 3 ≤ 1099511627776) (hcp3 : 160 ≤ q ∧ q ≤ 164 → opndN xs 1 ≤ 1099511627776) (hlg : 160 ≤ q ∧ q ≤ 164 → 2 ≤ xs.length) :
    Ret 153 [.pointer (some ⟨bs, 0, none⟩), .pointer (some ⟨bf, o, none⟩), .int .u8 q, .slice xga xs.length xgc] w (fun v w' => ∃ cs' H' ol' vl', v = .bool (effB s f q) ∧ Go (fun k => k = bs ∨ k = bm ∨ ol = some k) w H w' H' ∧ Blk w' bs cs' ∧ SC H' cs' (effS s f q xs) vf ∧ MB w' bm vm (effM s f q xs) ∧ LG w' H' ol' vl' (effS s f q xs).now.logs ∧ cs'[4]? = some vl' ∧ (∀ b, ol' = some b → ol = some b ∨ w.heap.size ≤ b) ∧ (∀ b, ol' = some b → ¬ H'.has b)) := by
  obtain ⟨am, rfl⟩ := kM.val
  obtain ⟨aa, ac, wa, wc, sa, sc, vr, la, lc, ta, tc, ma, mc, ga, gc, oa, oc, ra, rc, vlim, vtx, vleft, vpr, vtot, rS, rOr, rMd, hAc, hWA, hWS, hRf, hTm, hMd, hGn, hSr, hRt, hLm, hTx, hLf, hPr, hTt⟩ := hs.ex
  have so := hs.ok
  have so1 := so.accts
  have so2 := so.warmA
  have so3 := so.warmS
  have so4 := so.temps
  have so5 := so.start
  have so6 := so.logs
  have so7 := so.made
  have so8 := so.gone
  have so9 := so.ret
  have eC := hs.env
  obtain ⟨vpc, vgas, vval, voo, vol, ka, kc, ca, cc, ia, ic, svc, rF, rSe, rCa, rSv, hSv, hPc, hGa, hVa, hOo, hOl, hSt, hCo, hIn⟩ := hf.ex
  have fo := hf.ok
  have fo1 := fo.stack
  have fo2 := fo.code
  have fo3 := fo.input
  have fo4 := fo.mem
  have lS := kS.lt
  have lF := kF.lt
  have lM0 := lM
  obtain rfl : vl = .slice la s.now.logs.length lc := Option.some.inj (hvl.symm.trans (rS 4 _ rfl))
  refine enter (n := 176) Hvaa.func153 rfl rfl (Nat.le_of_ble_eq_true rfl) ?_
  have U : Ch (fun k => k = bs ∨ k = bm ∨ ol = some k) w w := Ch.refl _ w
  have G : Go (fun k => k = bs ∨ k = bm ∨ ol = some k) w H w H := Go.refl hF
  have hL0 : Le H H := Le.refl H
  refine c_seq (fun K1 hK1 => ?_)
  exact (by
    refine c_region ?_
    refine l_step y_assignC ?_
    refine l_nil ?_
    refine hK1 _ _ ?_
    refine fg4 3 2 1 0 (gS rfl (gS rfl (gS rfl (gS rfl g0)))) (gS rfl (gS rfl (gS rfl g0))) (gS rfl (gS rfl g0)) (gS rfl g0) (fun g => ?_)
    refine c_seq (fun K2 hK2 => ?_)
    exact (by
      refine c_region ?_
      refine l_step (y_moveV (et (gS rfl (gS rfl (gS rfl g0))) rfl)) ?_
      refine l_eff (e_callV cal_228 (aC (et g0 rfl) (aC (v := .int .i64 ((0 : Nat) : Int)) rfl aN)) (yp_operand 0 _ _ _ _ _ hF hX (by omega) (by decide))) (fun v3 w3 h3 => ?_)
      obtain ⟨u3, n3, q3⟩ := h3
      replace G := G.tr (Go.ofUp hF u3)
      replace hF := hF.up u3
      replace kS := kS.up u3
      replace kF := kF.up u3
      replace kM := kM.up u3
      replace kL := kL.up u3
      replace U := U.tr u3
      refine l_step (y_assignV (et g0 rfl)) ?_
      refine l_nil ?_
      refine hK2 _ _ ?_
      refine fg5 3 2 1 0 9 (gS rfl (gS rfl (gS rfl (gS rfl (gS rfl (gS rfl g0)))))) (gS rfl (gS rfl (gS rfl (gS rfl (gS rfl g0))))) (gS rfl (gS rfl (gS rfl (gS rfl g0)))) (gS rfl (gS rfl (gS rfl g0))) g0 (fun g => ?_)
      refine c_seq (fun K4 hK4 => ?_)
      exact (by
        refine c_region ?_
        refine l_step (y_moveV (et (gS rfl (gS rfl (gS rfl (gS rfl g0)))) rfl)) ?_
        refine l_eff (e_callV cal_228 (aC (et g0 rfl) (aC (v := .int .i64 ((1 : Nat) : Int)) rfl aN)) (yp_operand 1 _ _ _ _ _ hF hX (by omega) (by decide))) (fun v5 w5 h5 => ?_)
        obtain ⟨u5, n5, q5⟩ := h5
        replace G := G.tr (Go.ofUp hF u5)
        replace hF := hF.up u5
        replace kS := kS.up u5
        replace kF := kF.up u5
        replace kM := kM.up u5
        replace kL := kL.up u5
        replace U := U.tr u5
        refine l_step (y_assignV (et g0 rfl)) ?_
        refine l_nil ?_
        refine hK4 _ _ ?_
        refine fg6 3 2 1 0 9 10 (gS rfl (gS rfl (gS rfl (gS rfl (gS rfl (gS rfl (gS rfl g0))))))) (gS rfl (gS rfl (gS rfl (gS rfl (gS rfl (gS rfl g0)))))) (gS rfl (gS rfl (gS rfl (gS rfl (gS rfl g0))))) (gS rfl (gS rfl (gS rfl (gS rfl g0)))) (gS rfl (gS rfl (gS rfl g0))) g0 (fun g => ?_)
        refine c_seq (fun K6 hK6 => ?_)
        exact (by
          refine c_region ?_
          refine l_step (y_moveV (et (gS rfl (gS rfl (gS rfl (gS rfl (gS rfl g0))))) rfl)) ?_
          refine l_eff (e_callV cal_228 (aC (et g0 rfl) (aC (v := .int .i64 ((2 : Nat) : Int)) rfl aN)) (yp_operand 2 _ _ _ _ _ hF hX (by omega) (by decide))) (fun v7 w7 h7 => ?_)
          obtain ⟨u7, n7, q7⟩ := h7
          replace G := G.tr (Go.ofUp hF u7)
          replace hF := hF.up u7
          replace kS := kS.up u7
          replace kF := kF.up u7
          replace kM := kM.up u7
          replace kL := kL.up u7
          replace U := U.tr u7
          refine l_step (y_assignV (et g0 rfl)) ?_
          refine l_nil ?_
          refine hK6 _ _ ?_
          refine fg7 3 2 1 0 9 10 11 (gS rfl (gS rfl (gS rfl (gS rfl (gS rfl (gS rfl (gS rfl (gS rfl g0)))))))) (gS rfl (gS rfl (gS rfl (gS rfl (gS rfl (gS rfl (gS rfl g0))))))) (gS rfl (gS rfl (gS rfl (gS rfl (gS rfl (gS rfl g0)))))) (gS rfl (gS rfl (gS rfl (gS rfl (gS rfl g0))))) (gS rfl (gS rfl (gS rfl (gS rfl g0)))) (gS rfl (gS rfl (gS rfl g0))) g0 (fun g => ?_)
          refine c_seq (fun K8 hK8 => ?_)
          refine c_block (fun Q9 hQ9 => ?_)
          refine c_seq (fun K10 hK10 => ?_)
          exact (by
            refine c_region ?_
            refine l_step (y_moveV (et (gS rfl (gS rfl (gS rfl (gS rfl (gS rfl g0))))) rfl)) ?_
            refine l_step (y_eql (et g0 rfl) rfl) ?_
            refine l_step (y_assignV (et g0 rfl)) ?_
            refine l_nil ?_
            refine hK10 _ _ ?_
            refine fg8 3 2 1 0 9 10 11 23 (gS rfl (gS rfl (gS rfl (gS rfl (gS rfl (gS rfl (gS rfl (gS rfl (gS rfl g0))))))))) (gS rfl (gS rfl (gS rfl (gS rfl (gS rfl (gS rfl (gS rfl (gS rfl g0)))))))) (gS rfl (gS rfl (gS rfl (gS rfl (gS rfl (gS rfl (gS rfl g0))))))) (gS rfl (gS rfl (gS rfl (gS rfl (gS rfl (gS rfl g0)))))) (gS rfl (gS rfl (gS rfl (gS rfl (gS rfl g0))))) (gS rfl (gS rfl (gS rfl (gS rfl g0)))) (gS rfl (gS rfl (gS rfl g0))) g0 (fun g => ?_)
            refine c_condV (i := 23) g0 rfl (fun cB1 => ?_) (fun cB1 => ?_)
            · skip
              simp only [Bool.and_eq_true, Bool.or_eq_true, Bool.and_eq_false_imp, Bool.or_eq_false_iff, decide_eq_true_eq, decide_eq_false_iff_not] at cB1
              exact (by
                refine c_region ?_
                refine l_step (y_moveV (et (gS rfl (gS rfl (gS rfl (gS rfl (gS rfl (gS rfl g0)))))) rfl)) ?_
                refine l_step (y_moveV (et (gS rfl (gS rfl (gS rfl (gS rfl (gS rfl g0))))) rfl)) ?_
                refine l_step (y_moveV (et (gS rfl (gS rfl (gS rfl (gS rfl (gS rfl (gS rfl (gS rfl (gS rfl g0)))))))) rfl)) ?_
                refine l_step (y_nil (et g0 rfl)) ?_
                refine l_step (y_fld fld_146_11 (et g0 rfl)) ?_
                refine l_step (y_load1 one_38 (et g0 rfl) (at1 (kF.cell (rF 11 _ rfl)))) ?_
                refine l_step (y_moveV (et (gS rfl (gS rfl (gS rfl (gS rfl (gS rfl (gS rfl (gS rfl (gS rfl (gS rfl g0))))))))) rfl)) ?_
                refine l_step (y_moveV (et (gS rfl (gS rfl (gS rfl (gS rfl (gS rfl (gS rfl (gS rfl (gS rfl (gS rfl g0))))))))) rfl)) ?_
                refine l_eff (e_callV cal_234 (aC (et (gS rfl (gS rfl (gS rfl (gS rfl (gS rfl (gS rfl (gS rfl g0))))))) rfl) (aC (et (gS rfl (gS rfl (gS rfl (gS rfl (gS rfl (gS rfl g0)))))) rfl) (aC (et (gS rfl (gS rfl g0)) rfl) (aC (et (gS rfl g0) rfl) (aC (et g0 rfl) aN))))) (yp_copied hF _ _ _ _ _ kF (hf.mono hL0) _ kM (Nat.lt_of_lt_of_le lM U.size) dMF nbM n3 (hIn.mono hL0) n5 n7 (bd_up (bd_W q3) (by decide)) (bd_up (bd_W q5) (by decide)) (bd_up (bd_W q7) (by decide)) (hcp (by omega)) (by omega))) (fun v12 w12 h12 => ?_)
                obtain ⟨rfl, H12, g12, km12⟩ := h12
                have hlew12 := g12.le
                replace nbS := g12.nb nbS kS.lt
                replace nbM := g12.nb nbM (Nat.lt_of_lt_of_le lM U.size)
                replace hX := hX.mono hlew12
                replace n3 := n3.mono hlew12
                replace n5 := n5.mono hlew12
                replace n7 := n7.mono hlew12
                replace hL0 := hL0.trans hlew12
                replace kS := kS.ch g12.ch (by first | omega | exact hOo.ne (by omega) | exact fun e => (dL _ e).2.1 rfl)
                replace kF := kF.ch g12.ch (by first | omega | exact hOo.ne (by omega) | exact fun e => (dL _ e).2.2.1 rfl)
                replace kL := kL.ch g12.ch (by intro q hq hm; first | (have := dL q hq; first | omega | (have := hOo.lim q hm.symm; omega) | (simp only at hm; omega)) | (cases hq; exact hq9.elim (fun h9 => by have := dL _ h9; omega) (fun h9 => by omega)))
                replace kM := km12
                replace U := U.cc g12.ch (by intro b hb; first | exact .inl (.inl hb) | exact .inl (.inr (.inl hb)) | exact .inl (.inr (.inr hb)) | omega | exact .inl hb | exact .inr (by omega) | (simp at hb ⊢; omega))
                replace G := G.trans g12 (by intro b hb; first | exact .inl (.inl hb) | exact .inl (.inr (.inl hb)) | exact .inl (.inr (.inr hb)) | omega | exact .inl hb | exact .inr (by omega) | (simp at hb ⊢; omega))
                replace hF := g12.fz
                refine l_nil ?_
                refine hQ9 _ _ _ (in_normal ?_)
                refine hK8 _ _ ?_
                refine fg0 (fun g => ?_)
                refine c_seq (fun K13 hK13 => ?_)
                exact (by
                  refine c_region ?_
                  refine l_step y_assignC ?_
                  refine l_nil ?_
                  refine hK13 _ _ ?_
                  refine c_ret ?_
                  repeat with_reducible refine then_ret ?_
                  refine ret1 rfl (res_tmp (et g0 rfl)) ?_
                  refine ⟨_, _, _, _, by rw [effB, if_neg (by omega)], G, kS, by rw [effS, if_neg (by omega), if_neg (by omega), if_neg (by omega), if_neg (by omega)]; exact hs.mono hL0, by rw [effM, if_pos (by omega)]; exact kM, by rw [effS, if_neg (by omega), if_neg (by omega), if_neg (by omega), if_neg (by omega)]; exact kL.mono hL0, (rS 4 _ rfl), fun b e => .inl e, fun b e => G.nb (nbL b e) (dL b e).1⟩))
            · skip
              simp only [Bool.and_eq_true, Bool.or_eq_true, Bool.and_eq_false_imp, Bool.or_eq_false_iff, decide_eq_true_eq, decide_eq_false_iff_not] at cB1
              refine c_seq (fun K14 hK14 => ?_)
              exact (by
                refine c_region ?_
                refine l_step (y_moveV (et (gS rfl (gS rfl (gS rfl (gS rfl (gS rfl (gS rfl (gS rfl g0))))))) rfl)) ?_
                refine l_step (y_eql (et g0 rfl) rfl) ?_
                refine l_step (y_assignV (et g0 rfl)) ?_
                refine l_nil ?_
                refine hK14 _ _ ?_
                refine fg8 3 2 1 0 9 10 11 35 (gS rfl (gS rfl (gS rfl (gS rfl (gS rfl (gS rfl (gS rfl (gS rfl (gS rfl (gS rfl (gS rfl g0))))))))))) (gS rfl (gS rfl (gS rfl (gS rfl (gS rfl (gS rfl (gS rfl (gS rfl (gS rfl (gS rfl g0)))))))))) (gS rfl (gS rfl (gS rfl (gS rfl (gS rfl (gS rfl (gS rfl (gS rfl (gS rfl g0))))))))) (gS rfl (gS rfl (gS rfl (gS rfl (gS rfl (gS rfl (gS rfl (gS rfl g0)))))))) (gS rfl (gS rfl (gS rfl (gS rfl (gS rfl (gS rfl (gS rfl g0))))))) (gS rfl (gS rfl (gS rfl (gS rfl (gS rfl (gS rfl g0)))))) (gS rfl (gS rfl (gS rfl (gS rfl (gS rfl g0))))) g0 (fun g => ?_)
                refine c_condV (i := 35) g0 rfl (fun cB2 => ?_) (fun cB2 => ?_)
                · skip
                  simp only [Bool.and_eq_true, Bool.or_eq_true, Bool.and_eq_false_imp, Bool.or_eq_false_iff, decide_eq_true_eq, decide_eq_false_iff_not] at cB2
                  exact (by
                    refine c_region ?_
                    refine l_step (y_moveV (et (gS rfl (gS rfl (gS rfl (gS rfl (gS rfl (gS rfl g0)))))) rfl)) ?_
                    refine l_step (y_moveV (et (gS rfl (gS rfl (gS rfl (gS rfl (gS rfl g0))))) rfl)) ?_
                    refine l_step (y_moveV (et (gS rfl (gS rfl (gS rfl (gS rfl (gS rfl (gS rfl (gS rfl (gS rfl g0)))))))) rfl)) ?_
                    refine l_step (y_nil (et g0 rfl)) ?_
                    refine l_step (y_fld fld_146_10 (et g0 rfl)) ?_
                    refine l_step (y_load1 one_38 (et g0 rfl) (at1 (kF.cell (rF 10 _ rfl)))) ?_
                    refine l_step (y_moveV (et (gS rfl (gS rfl (gS rfl (gS rfl (gS rfl (gS rfl (gS rfl (gS rfl (gS rfl g0))))))))) rfl)) ?_
                    refine l_step (y_moveV (et (gS rfl (gS rfl (gS rfl (gS rfl (gS rfl (gS rfl (gS rfl (gS rfl (gS rfl g0))))))))) rfl)) ?_
                    refine l_eff (e_callV cal_234 (aC (et (gS rfl (gS rfl (gS rfl (gS rfl (gS rfl (gS rfl (gS rfl g0))))))) rfl) (aC (et (gS rfl (gS rfl (gS rfl (gS rfl (gS rfl (gS rfl g0)))))) rfl) (aC (et (gS rfl (gS rfl g0)) rfl) (aC (et (gS rfl g0) rfl) (aC (et g0 rfl) aN))))) (yp_copied hF _ _ _ _ _ kF (hf.mono hL0) _ kM (Nat.lt_of_lt_of_le lM U.size) dMF nbM n3 (hCo.mono hL0) n5 n7 (bd_up (bd_W q3) (by decide)) (bd_up (bd_W q5) (by decide)) (bd_up (bd_W q7) (by decide)) (hcp (by omega)) (by omega))) (fun v16 w16 h16 => ?_)
                    obtain ⟨rfl, H16, g16, km16⟩ := h16
                    have hlew16 := g16.le
                    replace nbS := g16.nb nbS kS.lt
                    replace nbM := g16.nb nbM (Nat.lt_of_lt_of_le lM U.size)
                    replace hX := hX.mono hlew16
                    replace n3 := n3.mono hlew16
                    replace n5 := n5.mono hlew16
                    replace n7 := n7.mono hlew16
                    replace hL0 := hL0.trans hlew16
                    replace kS := kS.ch g16.ch (by first | omega | exact hOo.ne (by omega) | exact fun e => (dL _ e).2.1 rfl)
                    replace kF := kF.ch g16.ch (by first | omega | exact hOo.ne (by omega) | exact fun e => (dL _ e).2.2.1 rfl)
                    replace kL := kL.ch g16.ch (by intro q hq hm; first | (have := dL q hq; first | omega | (have := hOo.lim q hm.symm; omega) | (simp only at hm; omega)) | (cases hq; exact hq9.elim (fun h9 => by have := dL _ h9; omega) (fun h9 => by omega)))
                    replace kM := km16
                    replace U := U.cc g16.ch (by intro b hb; first | exact .inl (.inl hb) | exact .inl (.inr (.inl hb)) | exact .inl (.inr (.inr hb)) | omega | exact .inl hb | exact .inr (by omega) | (simp at hb ⊢; omega))
                    replace G := G.trans g16 (by intro b hb; first | exact .inl (.inl hb) | exact .inl (.inr (.inl hb)) | exact .inl (.inr (.inr hb)) | omega | exact .inl hb | exact .inr (by omega) | (simp at hb ⊢; omega))
                    replace hF := g16.fz
                    refine l_nil ?_
                    refine hQ9 _ _ _ (in_normal ?_)
                    refine hK8 _ _ ?_
                    refine fg0 (fun g => ?_)
                    refine c_seq (fun K17 hK17 => ?_)
                    exact (by
                      refine c_region ?_
                      refine l_step y_assignC ?_
                      refine l_nil ?_
                      refine hK17 _ _ ?_
                      refine c_ret ?_
                      repeat with_reducible refine then_ret ?_
                      refine ret1 rfl (res_tmp (et g0 rfl)) ?_
                      refine ⟨_, _, _, _, by rw [effB, if_neg (by omega)], G, kS, by rw [effS, if_neg (by omega), if_neg (by omega), if_neg (by omega), if_neg (by omega)]; exact hs.mono hL0, by rw [effM, if_neg (by omega), if_pos (by omega)]; exact kM, by rw [effS, if_neg (by omega), if_neg (by omega), if_neg (by omega), if_neg (by omega)]; exact kL.mono hL0, (rS 4 _ rfl), fun b e => .inl e, fun b e => G.nb (nbL b e) (dL b e).1⟩))
                · skip
                  simp only [Bool.and_eq_true, Bool.or_eq_true, Bool.and_eq_false_imp, Bool.or_eq_false_iff, decide_eq_true_eq, decide_eq_false_iff_not] at cB2
                  refine c_seq (fun K18 hK18 => ?_)
                  exact (by
                    refine c_region ?_
                    refine l_step (y_moveV (et (gS rfl (gS rfl (gS rfl (gS rfl (gS rfl (gS rfl (gS rfl g0))))))) rfl)) ?_
                    refine l_step (y_eql (et g0 rfl) rfl) ?_
                    refine l_step (y_assignV (et g0 rfl)) ?_
                    refine l_nil ?_
                    refine hK18 _ _ ?_
                    refine fg8 3 2 1 0 9 10 11 47 (gS rfl (gS rfl (gS rfl (gS rfl (gS rfl (gS rfl (gS rfl (gS rfl (gS rfl (gS rfl (gS rfl g0))))))))))) (gS rfl (gS rfl (gS rfl (gS rfl (gS rfl (gS rfl (gS rfl (gS rfl (gS rfl (gS rfl g0)))))))))) (gS rfl (gS rfl (gS rfl (gS rfl (gS rfl (gS rfl (gS rfl (gS rfl (gS rfl g0))))))))) (gS rfl (gS rfl (gS rfl (gS rfl (gS rfl (gS rfl (gS rfl (gS rfl g0)))))))) (gS rfl (gS rfl (gS rfl (gS rfl (gS rfl (gS rfl (gS rfl g0))))))) (gS rfl (gS rfl (gS rfl (gS rfl (gS rfl (gS rfl g0)))))) (gS rfl (gS rfl (gS rfl (gS rfl (gS rfl g0))))) g0 (fun g => ?_)
                    refine c_condV (i := 47) g0 rfl (fun cB3 => ?_) (fun cB3 => ?_)
                    · skip
                      simp only [Bool.and_eq_true, Bool.or_eq_true, Bool.and_eq_false_imp, Bool.or_eq_false_iff, decide_eq_true_eq, decide_eq_false_iff_not] at cB3
                      exact (by
                        refine c_region ?_
                        refine l_step (y_moveV (et (gS rfl (gS rfl (gS rfl (gS rfl (gS rfl (gS rfl g0)))))) rfl)) ?_
                        refine l_step (y_moveV (et (gS rfl (gS rfl (gS rfl (gS rfl (gS rfl g0))))) rfl)) ?_
                        refine l_step (y_moveV (et (gS rfl (gS rfl (gS rfl (gS rfl (gS rfl (gS rfl (gS rfl g0))))))) rfl)) ?_
                        refine l_step (y_nil (et g0 rfl)) ?_
                        refine l_step (y_fld fld_102_3 (et g0 rfl)) ?_
                        refine l_step (y_load1 one_38 (et g0 rfl) (at1 (kS.cell (rS 10 _ rfl)))) ?_
                        refine l_step (y_moveV (et (gS rfl (gS rfl (gS rfl (gS rfl (gS rfl (gS rfl (gS rfl (gS rfl (gS rfl g0))))))))) rfl)) ?_
                        refine l_step (y_moveV (et (gS rfl (gS rfl (gS rfl (gS rfl (gS rfl (gS rfl (gS rfl (gS rfl (gS rfl g0))))))))) rfl)) ?_
                        refine l_eff (e_callV cal_234 (aC (et (gS rfl (gS rfl (gS rfl (gS rfl (gS rfl (gS rfl (gS rfl g0))))))) rfl) (aC (et (gS rfl (gS rfl (gS rfl (gS rfl (gS rfl (gS rfl g0)))))) rfl) (aC (et (gS rfl (gS rfl g0)) rfl) (aC (et (gS rfl g0) rfl) (aC (et g0 rfl) aN))))) (yp_copied hF _ _ _ _ _ kF (hf.mono hL0) _ kM (Nat.lt_of_lt_of_le lM U.size) dMF nbM n3 (hRt.mono hL0) n5 n7 (bd_up (bd_W q3) (by decide)) (bd_up (bd_W q5) (by decide)) (bd_up (bd_W q7) (by decide)) (hcp (by omega)) (by omega))) (fun v20 w20 h20 => ?_)
                        obtain ⟨rfl, H20, g20, km20⟩ := h20
                        have hlew20 := g20.le
                        replace nbS := g20.nb nbS kS.lt
                        replace nbM := g20.nb nbM (Nat.lt_of_lt_of_le lM U.size)
                        replace hX := hX.mono hlew20
                        replace n3 := n3.mono hlew20
                        replace n5 := n5.mono hlew20
                        replace n7 := n7.mono hlew20
                        replace hL0 := hL0.trans hlew20
                        replace kS := kS.ch g20.ch (by first | omega | exact hOo.ne (by omega) | exact fun e => (dL _ e).2.1 rfl)
                        replace kF := kF.ch g20.ch (by first | omega | exact hOo.ne (by omega) | exact fun e => (dL _ e).2.2.1 rfl)
                        replace kL := kL.ch g20.ch (by intro q hq hm; first | (have := dL q hq; first | omega | (have := hOo.lim q hm.symm; omega) | (simp only at hm; omega)) | (cases hq; exact hq9.elim (fun h9 => by have := dL _ h9; omega) (fun h9 => by omega)))
                        replace kM := km20
                        replace U := U.cc g20.ch (by intro b hb; first | exact .inl (.inl hb) | exact .inl (.inr (.inl hb)) | exact .inl (.inr (.inr hb)) | omega | exact .inl hb | exact .inr (by omega) | (simp at hb ⊢; omega))
                        replace G := G.trans g20 (by intro b hb; first | exact .inl (.inl hb) | exact .inl (.inr (.inl hb)) | exact .inl (.inr (.inr hb)) | omega | exact .inl hb | exact .inr (by omega) | (simp at hb ⊢; omega))
                        replace hF := g20.fz
                        refine l_nil ?_
                        refine hQ9 _ _ _ (in_normal ?_)
                        refine hK8 _ _ ?_
                        refine fg0 (fun g => ?_)
                        refine c_seq (fun K21 hK21 => ?_)
                        exact (by
                          refine c_region ?_
                          refine l_step y_assignC ?_
                          refine l_nil ?_
                          refine hK21 _ _ ?_
                          refine c_ret ?_
                          repeat with_reducible refine then_ret ?_
                          refine ret1 rfl (res_tmp (et g0 rfl)) ?_
                          refine ⟨_, _, _, _, by rw [effB, if_neg (by omega)], G, kS, by rw [effS, if_neg (by omega), if_neg (by omega), if_neg (by omega), if_neg (by omega)]; exact hs.mono hL0, by rw [effM, if_neg (by omega), if_neg (by omega), if_pos (by omega)]; exact kM, by rw [effS, if_neg (by omega), if_neg (by omega), if_neg (by omega), if_neg (by omega)]; exact kL.mono hL0, (rS 4 _ rfl), fun b e => .inl e, fun b e => G.nb (nbL b e) (dL b e).1⟩))
                    · skip
                      simp only [Bool.and_eq_true, Bool.or_eq_true, Bool.and_eq_false_imp, Bool.or_eq_false_iff, decide_eq_true_eq, decide_eq_false_iff_not] at cB3
                      refine c_seq (fun K22 hK22 => ?_)
                      exact (by
                        refine c_region ?_
                        refine l_step (y_moveV (et (gS rfl (gS rfl (gS rfl (gS rfl (gS rfl (gS rfl (gS rfl g0))))))) rfl)) ?_
                        refine l_step (y_eql (et g0 rfl) rfl) ?_
                        refine l_step (y_assignV (et g0 rfl)) ?_
                        refine l_nil ?_
                        refine hK22 _ _ ?_
                        refine fg8 3 2 1 0 9 10 11 59 (gS rfl (gS rfl (gS rfl (gS rfl (gS rfl (gS rfl (gS rfl (gS rfl (gS rfl (gS rfl (gS rfl g0))))))))))) (gS rfl (gS rfl (gS rfl (gS rfl (gS rfl (gS rfl (gS rfl (gS rfl (gS rfl (gS rfl g0)))))))))) (gS rfl (gS rfl (gS rfl (gS rfl (gS rfl (gS rfl (gS rfl (gS rfl (gS rfl g0))))))))) (gS rfl (gS rfl (gS rfl (gS rfl (gS rfl (gS rfl (gS rfl (gS rfl g0)))))))) (gS rfl (gS rfl (gS rfl (gS rfl (gS rfl (gS rfl (gS rfl g0))))))) (gS rfl (gS rfl (gS rfl (gS rfl (gS rfl (gS rfl g0)))))) (gS rfl (gS rfl (gS rfl (gS rfl (gS rfl g0))))) g0 (fun g => ?_)
                        refine c_condV (i := 59) g0 rfl (fun cB4 => ?_) (fun cB4 => ?_)
                        · skip
                          simp only [Bool.and_eq_true, Bool.or_eq_true, Bool.and_eq_false_imp, Bool.or_eq_false_iff, decide_eq_true_eq, decide_eq_false_iff_not] at cB4
                          exact (by
                            refine c_region ?_
                            refine l_step (y_moveV (et (gS rfl (gS rfl (gS rfl (gS rfl (gS rfl (gS rfl g0)))))) rfl)) ?_
                            refine l_step (y_moveV (et (gS rfl (gS rfl (gS rfl (gS rfl (gS rfl g0))))) rfl)) ?_
                            refine l_step (y_moveV (et (gS rfl (gS rfl (gS rfl (gS rfl (gS rfl (gS rfl (gS rfl (gS rfl g0)))))))) rfl)) ?_
                            refine l_step (y_nil (et g0 rfl)) ?_
                            refine l_step (y_fld fld_146_9 (et g0 rfl)) ?_
                            refine l_step (y_load1 one_38 (et g0 rfl) (at1 (kF.cell (rF 9 _ rfl)))) ?_
                            refine l_eff (e_callV cal_26 (aC (et g0 rfl) aN) (yp_bytesOf _ _ _ _ _ _ hF (kM.wv (by omega)) (Nat.le_refl _) (by omega))) (fun v24 w24 h24 => ?_)
                            obtain ⟨H24, g24, b24⟩ := h24
                            have hlew24 := g24.le
                            replace nbS := g24.nb nbS kS.lt
                            replace nbM := g24.nb nbM (Nat.lt_of_lt_of_le lM U.size)
                            replace hX := hX.mono hlew24
                            replace n3 := n3.mono hlew24
                            replace n5 := n5.mono hlew24
                            replace n7 := n7.mono hlew24
                            replace hL0 := hL0.trans hlew24
                            replace kS := kS.up g24.up
                            replace kF := kF.up g24.up
                            replace kM := kM.up g24.up
                            replace kL := kL.up g24.up
                            replace U := U.tr g24.up
                            replace G := G.tr g24
                            replace hF := g24.fz
                            refine l_step (y_moveV (et (gS rfl (gS rfl (gS rfl (gS rfl (gS rfl (gS rfl (gS rfl (gS rfl (gS rfl (gS rfl g0)))))))))) rfl)) ?_
                            refine l_step (y_moveV (et (gS rfl (gS rfl (gS rfl (gS rfl (gS rfl (gS rfl (gS rfl (gS rfl (gS rfl (gS rfl g0)))))))))) rfl)) ?_
                            refine l_eff (e_callV cal_234 (aC (et (gS rfl (gS rfl (gS rfl (gS rfl (gS rfl (gS rfl (gS rfl (gS rfl g0)))))))) rfl) (aC (et (gS rfl (gS rfl (gS rfl (gS rfl (gS rfl (gS rfl (gS rfl g0))))))) rfl) (aC (et (gS rfl (gS rfl g0)) rfl) (aC (et (gS rfl g0) rfl) (aC (et g0 rfl) aN))))) (yp_copied hF _ _ _ _ _ kF (hf.mono hL0) _ kM (Nat.lt_of_lt_of_le lM U.size) dMF nbM n3 b24 n5 n7 (bd_up (bd_W q3) (by decide)) (bd_up (bd_W q5) (by decide)) (bd_up (bd_W q7) (by decide)) (hcp (by omega)) (by omega))) (fun v25 w25 h25 => ?_)
                            obtain ⟨rfl, H25, g25, km25⟩ := h25
                            have hlew25 := g25.le
                            replace nbS := g25.nb nbS kS.lt
                            replace nbM := g25.nb nbM (Nat.lt_of_lt_of_le lM U.size)
                            replace hX := hX.mono hlew25
                            replace n3 := n3.mono hlew25
                            replace n5 := n5.mono hlew25
                            replace n7 := n7.mono hlew25
                            replace b24 := b24.mono hlew25
                            replace hL0 := hL0.trans hlew25
                            replace kS := kS.ch g25.ch (by first | omega | exact hOo.ne (by omega) | exact fun e => (dL _ e).2.1 rfl)
                            replace kF := kF.ch g25.ch (by first | omega | exact hOo.ne (by omega) | exact fun e => (dL _ e).2.2.1 rfl)
                            replace kL := kL.ch g25.ch (by intro q hq hm; first | (have := dL q hq; first | omega | (have := hOo.lim q hm.symm; omega) | (simp only at hm; omega)) | (cases hq; exact hq9.elim (fun h9 => by have := dL _ h9; omega) (fun h9 => by omega)))
                            replace kM := km25
                            replace U := U.cc g25.ch (by intro b hb; first | exact .inl (.inl hb) | exact .inl (.inr (.inl hb)) | exact .inl (.inr (.inr hb)) | omega | exact .inl hb | exact .inr (by omega) | (simp at hb ⊢; omega))
                            replace G := G.trans g25 (by intro b hb; first | exact .inl (.inl hb) | exact .inl (.inr (.inl hb)) | exact .inl (.inr (.inr hb)) | omega | exact .inl hb | exact .inr (by omega) | (simp at hb ⊢; omega))
                            replace hF := g25.fz
                            refine l_nil ?_
                            refine hQ9 _ _ _ (in_normal ?_)
                            refine hK8 _ _ ?_
                            refine fg0 (fun g => ?_)
                            refine c_seq (fun K26 hK26 => ?_)
                            exact (by
                              refine c_region ?_
                              refine l_step y_assignC ?_
                              refine l_nil ?_
                              refine hK26 _ _ ?_
                              refine c_ret ?_
                              repeat with_reducible refine then_ret ?_
                              refine ret1 rfl (res_tmp (et g0 rfl)) ?_
                              refine ⟨_, _, _, _, by rw [effB, if_neg (by omega)], G, kS, by rw [effS, if_neg (by omega), if_neg (by omega), if_neg (by omega), if_neg (by omega)]; exact hs.mono hL0, by rw [effM, if_neg (by omega), if_neg (by omega), if_neg (by omega), if_pos (by omega)]; exact kM, by rw [effS, if_neg (by omega), if_neg (by omega), if_neg (by omega), if_neg (by omega)]; exact kL.mono hL0, (rS 4 _ rfl), fun b e => .inl e, fun b e => G.nb (nbL b e) (dL b e).1⟩))
                        · skip
                          simp only [Bool.and_eq_true, Bool.or_eq_true, Bool.and_eq_false_imp, Bool.or_eq_false_iff, decide_eq_true_eq, decide_eq_false_iff_not] at cB4
                          refine c_seq (fun K27 hK27 => ?_)
                          exact (by
                            refine c_region ?_
                            refine l_step (y_moveV (et (gS rfl (gS rfl (gS rfl (gS rfl (gS rfl (gS rfl (gS rfl g0))))))) rfl)) ?_
                            refine l_step (y_eql (et g0 rfl) rfl) ?_
                            refine l_step (y_assignV (et g0 rfl)) ?_
                            refine l_nil ?_
                            refine hK27 _ _ ?_
                            refine fg8 3 2 1 0 9 10 11 72 (gS rfl (gS rfl (gS rfl (gS rfl (gS rfl (gS rfl (gS rfl (gS rfl (gS rfl (gS rfl (gS rfl g0))))))))))) (gS rfl (gS rfl (gS rfl (gS rfl (gS rfl (gS rfl (gS rfl (gS rfl (gS rfl (gS rfl g0)))))))))) (gS rfl (gS rfl (gS rfl (gS rfl (gS rfl (gS rfl (gS rfl (gS rfl (gS rfl g0))))))))) (gS rfl (gS rfl (gS rfl (gS rfl (gS rfl (gS rfl (gS rfl (gS rfl g0)))))))) (gS rfl (gS rfl (gS rfl (gS rfl (gS rfl (gS rfl (gS rfl g0))))))) (gS rfl (gS rfl (gS rfl (gS rfl (gS rfl (gS rfl g0)))))) (gS rfl (gS rfl (gS rfl (gS rfl (gS rfl g0))))) g0 (fun g => ?_)
                            refine c_condV (i := 72) g0 rfl (fun cB5 => ?_) (fun cB5 => ?_)
                            · skip
                              simp only [Bool.and_eq_true, Bool.or_eq_true, Bool.and_eq_false_imp, Bool.or_eq_false_iff, decide_eq_true_eq, decide_eq_false_iff_not] at cB5
                              refine c_seq (fun K29 hK29 => ?_)
                              exact (by
                                refine c_draw Up 5 [(0, true), (1, true), (2, true), (3, true), (4, false), (5, false)] (by kernel_rfl) (fun w30 hu => ⟨Up.refl _, ?_⟩)
                                replace G := G.tr (Go.ofUp hF hu)
                                replace hF := hF.up hu
                                replace kS := kS.up hu
                                replace kF := kF.up hu
                                replace kM := kM.up hu
                                replace kL := kL.up hu
                                replace U := U.tr hu
                                have SU := Up.refl w30
                                refine p_step (by exact rfl) (y_moveV (et (gS rfl (gS rfl (gS rfl (gS rfl (gS rfl g0))))) rfl)) ?_
                                refine p_step (by exact rfl) (y_nil (et g0 rfl)) ?_
                                refine p_step (by exact rfl) (y_fld fld_102_0 (et g0 rfl)) ?_
                                refine p_step (by exact rfl) (y_moveV (et (gS rfl (gS rfl (gS rfl (gS rfl (gS rfl (gS rfl (gS rfl g0))))))) rfl)) ?_
                                refine p_eff (by exact rfl) (e_callV cal_147 (aC (et g0 rfl) aN) (yp_addrOf hF n3 (bd_up (bd_W q3) (by decide)))) (fun v31 w31 h31 => ?_)
                                obtain ⟨rfl, u31⟩ := h31
                                replace G := G.tr (Go.ofUp hF u31)
                                replace hF := hF.up u31
                                replace kS := kS.up u31
                                replace kF := kF.up u31
                                replace kM := kM.up u31
                                replace kL := kL.up u31
                                replace U := U.tr u31
                                refine ⟨.inr (SU.tr u31), ?_⟩
                                replace SU := SU.tr u31
                                refine p_eff (by exact rfl) (e_callV cal_51 (aC (et (gS rfl (gS rfl g0)) rfl) (aC (et g0 rfl) aN)) (yp_warm _ _ _ _ _ _ _ _ _ hF kS nbS (rS 1 _ rfl) (hWA.mono hL0) (Nat.mod_lt _ A160_pos) (by omega))) (fun v32 w32 h32 => ?_)
                                obtain ⟨rfl, z32, H32, g32, lv32, kx32⟩ := h32
                                have hlew32 := g32.le
                                replace nbS := g32.nb nbS kS.lt
                                replace nbM := g32.nb nbM (Nat.lt_of_lt_of_le lM U.size)
                                replace hX := hX.mono hlew32
                                replace n3 := n3.mono hlew32
                                replace n5 := n5.mono hlew32
                                replace n7 := n7.mono hlew32
                                replace hL0 := hL0.trans hlew32
                                replace kF := kF.ch g32.ch (by first | omega | exact hOo.ne (by omega) | exact fun e => (dL _ e).2.2.1 rfl)
                                replace kM := kM.ch g32.ch (by first | omega | exact hOo.ne (by omega) | exact fun e => (dL _ e).2.2.2 rfl)
                                replace kL := kL.ch g32.ch (by intro q hq hm; first | (have := dL q hq; first | omega | (have := hOo.lim q hm.symm; omega) | (simp only at hm; omega)) | (cases hq; exact hq9.elim (fun h9 => by have := dL _ h9; omega) (fun h9 => by omega)))
                                replace kS := kx32
                                replace U := U.cc g32.ch (by intro b hb; first | exact .inl (.inl hb) | exact .inl (.inr (.inl hb)) | exact .inl (.inr (.inr hb)) | omega | exact .inl hb | exact .inr (by omega) | (simp at hb ⊢; omega))
                                replace G := G.trans g32 (by intro b hb; first | exact .inl (.inl hb) | exact .inl (.inr (.inl hb)) | exact .inl (.inr (.inr hb)) | omega | exact .inl hb | exact .inr (by omega) | (simp at hb ⊢; omega))
                                replace hF := g32.fz
                                obtain ⟨xa32, xc32, rfl, hxl32, hxc32⟩ := lv32.val
                                replace eC := kS.eset eC (by omega)
                                replace rS : RowIn _ _ [.slice aa s.now.accts.length ac, _, .slice sa s.now.warmS.length sc, vr, .slice la s.now.logs.length lc, .slice ta s.now.temps.length tc, .slice ma s.now.made.length mc, .slice ga s.now.gone.length gc, .slice oa s.start.length oc, vf, .slice ra s.ret.length rc, .int .u8 (s.phase : Nat), .int .u8 (s.status : Nat), .int .u8 (s.applied : Nat), vlim, vtx, vleft, vpr, vtot] := kS.rset rS 1 rfl
                                replace rOr := kS.rseto rOr (by first | (left; omega) | (right; simp only [List.length_cons, List.length_nil, length_bL, length_be]; omega))
                                replace rMd := kS.rseto rMd (by first | (left; omega) | (right; simp only [List.length_cons, List.length_nil, length_bL, length_be]; omega))
                                refine ⟨.inl rfl, ?_⟩
                                refine p_nil ?_
                                refine hK29 _ _ ?_
                                refine fg6 3 1 0 9 10 11 (gS rfl (gS rfl (gS rfl (gS rfl (gS rfl (gS rfl (gS rfl (gS rfl (gS rfl (gS rfl (gS rfl (gS rfl (gS rfl (gS rfl g0)))))))))))))) (gS rfl (gS rfl (gS rfl (gS rfl (gS rfl (gS rfl (gS rfl (gS rfl (gS rfl (gS rfl (gS rfl (gS rfl g0)))))))))))) (gS rfl (gS rfl (gS rfl (gS rfl (gS rfl (gS rfl (gS rfl (gS rfl (gS rfl (gS rfl (gS rfl g0))))))))))) (gS rfl (gS rfl (gS rfl (gS rfl (gS rfl (gS rfl (gS rfl (gS rfl (gS rfl (gS rfl g0)))))))))) (gS rfl (gS rfl (gS rfl (gS rfl (gS rfl (gS rfl (gS rfl (gS rfl (gS rfl g0))))))))) (gS rfl (gS rfl (gS rfl (gS rfl (gS rfl (gS rfl (gS rfl (gS rfl g0)))))))) (fun g => ?_)
                                refine c_draw Up 12 [(0, true), (1, true), (2, true), (3, true), (4, true), (5, true), (9, true), (10, true), (6, false), (7, false), (8, true), (11, false), (12, false)] (by kernel_rfl) (fun w33 hu => ⟨Up.refl _, ?_⟩)
                                replace G := G.tr (Go.ofUp hF hu)
                                replace hF := hF.up hu
                                replace kS := kS.up hu
                                replace kF := kF.up hu
                                replace kM := kM.up hu
                                replace kL := kL.up hu
                                replace U := U.tr hu
                                have SU := Up.refl w33
                                exact (by
                                  refine p_step (by exact rfl) (y_moveV (et (gS rfl (gS rfl (gS rfl (gS rfl g0)))) rfl)) ?_
                                  refine p_step (by exact rfl) (y_moveV (et (gS rfl (gS rfl g0)) rfl)) ?_
                                  refine p_step (by exact rfl) (y_moveV (et (gS rfl (gS rfl (gS rfl (gS rfl (gS rfl g0))))) rfl)) ?_
                                  refine p_step (by exact rfl) (y_nil (et g0 rfl)) ?_
                                  refine p_step (by exact rfl) (y_fld fld_102_0 (et g0 rfl)) ?_
                                  refine p_step (by exact rfl) (y_moveV (et (gS rfl (gS rfl (gS rfl (gS rfl (gS rfl (gS rfl (gS rfl g0))))))) rfl)) ?_
                                  refine p_step (by exact rfl) (y_moveV (et (gS rfl (gS rfl (gS rfl (gS rfl (gS rfl (gS rfl g0)))))) rfl)) ?_
                                  refine p_step (by exact rfl) (y_moveV (et (gS rfl (gS rfl (gS rfl (gS rfl (gS rfl (gS rfl (gS rfl (gS rfl (gS rfl (gS rfl (gS rfl (gS rfl g0)))))))))))) rfl)) ?_
                                  refine p_eff (by exact rfl) (e_callV cal_147 (aC (et (gS rfl (gS rfl g0)) rfl) aN) (yp_addrOf hF n3 (bd_up (bd_W q3) (by decide)))) (fun v34 w34 h34 => ?_)
                                  obtain ⟨rfl, u34⟩ := h34
                                  replace G := G.tr (Go.ofUp hF u34)
                                  replace hF := hF.up u34
                                  replace kS := kS.up u34
                                  replace kF := kF.up u34
                                  replace kM := kM.up u34
                                  replace kL := kL.up u34
                                  replace U := U.tr u34
                                  refine ⟨.inr (SU.tr u34), ?_⟩
                                  replace SU := SU.tr u34
                                  refine p_eff (by exact rfl) (e_callV cal_43 (aC (et (gS rfl (gS rfl (gS rfl (gS rfl g0)))) rfl) (aC (et g0 rfl) aN)) (yp_account _ _ _ _ _ _ _ _ _ hF kS (rS 0 _ rfl) (hAc.mono hL0) (Nat.mod_lt _ A160_pos) (by omega))) (fun v35 w35 h35 => ?_)
                                  obtain ⟨c35, rfl, p35, u35⟩ := h35
                                  replace G := G.tr (Go.ofUp hF u35)
                                  replace hF := hF.up u35
                                  replace kS := kS.up u35
                                  replace kF := kF.up u35
                                  replace kM := kM.up u35
                                  replace kL := kL.up u35
                                  replace U := U.tr u35
                                  replace p35 : PA _ _ _ := ⟨p35⟩
                                  refine ⟨.inr (SU.tr u35), ?_⟩
                                  replace SU := SU.tr u35
                                  exact (by
                                    obtain ⟨vn36, vb36, vc36, vs36, hc36, hn36, hbb36, hcd36, hb136, hb236⟩ := acct_form p35.p
                                    rw [hc36]
                                    refine p_step (by exact rfl) (y_fldV (f := 3) Hvaa.underlying107 rfl rfl rfl one_38 (et g0 rfl) ((app20 (i := 2) rfl).trans rfl)) ?_
                                    refine p_eff (by exact rfl) (e_callV cal_228 (aC (et (gS rfl (gS rfl (gS rfl g0))) rfl) (aC (v := .int .i64 ((3 : Nat) : Int)) rfl aN)) (yp_operand 3 _ _ _ _ _ hF hX (by omega) (by decide))) (fun v37 w37 h37 => ?_)
                                    obtain ⟨u37, n37, q37⟩ := h37
                                    replace G := G.tr (Go.ofUp hF u37)
                                    replace hF := hF.up u37
                                    replace kS := kS.up u37
                                    replace kF := kF.up u37
                                    replace kM := kM.up u37
                                    replace kL := kL.up u37
                                    replace U := U.tr u37
                                    refine ⟨.inr (SU.tr u37), ?_⟩
                                    replace SU := SU.tr u37
                                    refine p_eff (by exact rfl) (e_callV cal_234 (aC (et (gS rfl (gS rfl (gS rfl (gS rfl (gS rfl (gS rfl (gS rfl (gS rfl (gS rfl (gS rfl (gS rfl g0))))))))))) rfl) (aC (et (gS rfl (gS rfl (gS rfl (gS rfl (gS rfl (gS rfl (gS rfl (gS rfl (gS rfl (gS rfl g0)))))))))) rfl) (aC (et (gS rfl g0) rfl) (aC (et (gS rfl (gS rfl (gS rfl (gS rfl (gS rfl g0))))) rfl) (aC (et g0 rfl) aN))))) (yp_copied hF _ _ _ _ _ kF (hf.mono hL0) _ kM (Nat.lt_of_lt_of_le lM U.size) dMF nbM n5 hcd36 n7 n37 (bd_up (bd_W q5) (by decide)) (bd_up (bd_W q7) (by decide)) (bd_up (bd_W q37) (by decide)) (hcp2 (by omega)) (acctC p35.p))) (fun v38 w38 h38 => ?_)
                                    obtain ⟨rfl, H38, g38, km38⟩ := h38
                                    have hlew38 := g38.le
                                    replace nbS := g38.nb nbS kS.lt
                                    replace nbM := g38.nb nbM (Nat.lt_of_lt_of_le lM U.size)
                                    replace hX := hX.mono hlew38
                                    replace n3 := n3.mono hlew38
                                    replace n5 := n5.mono hlew38
                                    replace n7 := n7.mono hlew38
                                    replace lv32 := lv32.mono hlew38
                                    replace p35 := p35.mono hlew38
                                    replace hn36 := hn36.mono hlew38
                                    replace hbb36 := hbb36.mono hlew38
                                    replace hcd36 := hcd36.mono hlew38
                                    replace n37 := n37.mono hlew38
                                    replace hL0 := hL0.trans hlew38
                                    replace kS := kS.ch g38.ch (by first | omega | exact hOo.ne (by omega) | exact fun e => (dL _ e).2.1 rfl)
                                    replace kF := kF.ch g38.ch (by first | omega | exact hOo.ne (by omega) | exact fun e => (dL _ e).2.2.1 rfl)
                                    replace kL := kL.ch g38.ch (by intro q hq hm; first | (have := dL q hq; first | omega | (have := hOo.lim q hm.symm; omega) | (simp only at hm; omega)) | (cases hq; exact hq9.elim (fun h9 => by have := dL _ h9; omega) (fun h9 => by omega)))
                                    replace kM := km38
                                    replace U := U.cc g38.ch (by intro b hb; first | exact .inl (.inl hb) | exact .inl (.inr (.inl hb)) | exact .inl (.inr (.inr hb)) | omega | exact .inl hb | exact .inr (by omega) | (simp at hb ⊢; omega))
                                    replace G := G.trans g38 (by intro b hb; first | exact .inl (.inl hb) | exact .inl (.inr (.inl hb)) | exact .inl (.inr (.inr hb)) | omega | exact .inl hb | exact .inr (by omega) | (simp at hb ⊢; omega))
                                    replace hF := g38.fz
                                    refine ⟨.inl rfl, ?_⟩
                                    refine p_nil ?_
                                    refine hQ9 _ _ _ (in_normal ?_)
                                    refine hK8 _ _ ?_
                                    refine fg0 (fun g => ?_)
                                    refine c_seq (fun K39 hK39 => ?_)
                                    exact (by
                                      refine c_region ?_
                                      refine l_step y_assignC ?_
                                      refine l_nil ?_
                                      refine hK39 _ _ ?_
                                      refine c_ret ?_
                                      repeat with_reducible refine then_ret ?_
                                      refine ret1 rfl (res_tmp (et g0 rfl)) ?_
                                      refine ⟨_, _, _, _, by rw [effB, if_neg (by omega)], G, kS, by rw [effS, if_pos (by omega)]; exact ⟨⟨so.accts, by show (withA s.now.warmA (opndN xs 0 % A160)).length < _; have := len_withA s.now.warmA (opndN xs 0 % A160); have := rm.warmA; omega, so.warmS, so.refund, so.logs, so.temps, so.made, so.gone, so.start, so.ret, so.phase, so.status, so.applied, so.limit, so.txGas, so.left, so.price, so.total, so.origin, so.mad⟩, eC.mono hL0, (by simp only [size_spl, Array.size_setIfInBounds]; exact hs.size), _, _, _, _, _, _, _, _, _, _, _, _, _, _, _, _, _, _, _, _, _, _, _, _, rS, rOr, rMd, (hAc.mono hL0), lv32, (hWS.mono hL0), (hRf.mono hL0), (hTm.mono hL0), (hMd.mono hL0), (hGn.mono hL0), (hSr.mono hL0), (hRt.mono hL0), (hLm.mono hL0), (hTx.mono hL0), (hLf.mono hL0), (hPr.mono hL0), (hTt.mono hL0)⟩, by rw [effM, if_neg (by omega), if_neg (by omega), if_neg (by omega), if_neg (by omega), if_pos (by omega)]; exact kM, by rw [effS, if_pos (by omega)]; exact kL.mono hL0, (rS 4 _ rfl), fun b e => .inl e, fun b e => G.nb (nbL b e) (dL b e).1⟩))))
                            · skip
                              simp only [Bool.and_eq_true, Bool.or_eq_true, Bool.and_eq_false_imp, Bool.or_eq_false_iff, decide_eq_true_eq, decide_eq_false_iff_not] at cB5
                              refine c_seq (fun K40 hK40 => ?_)
                              exact (by
                                refine c_region ?_
                                refine l_step (y_moveV (et (gS rfl (gS rfl (gS rfl (gS rfl (gS rfl (gS rfl (gS rfl g0))))))) rfl)) ?_
                                refine l_step (y_eql (et g0 rfl) rfl) ?_
                                refine l_step (y_assignV (et g0 rfl)) ?_
                                refine l_nil ?_
                                refine hK40 _ _ ?_
                                refine fg7 3 2 1 0 9 10 94 (gS rfl (gS rfl (gS rfl (gS rfl (gS rfl (gS rfl (gS rfl (gS rfl (gS rfl (gS rfl (gS rfl g0))))))))))) (gS rfl (gS rfl (gS rfl (gS rfl (gS rfl (gS rfl (gS rfl (gS rfl (gS rfl (gS rfl g0)))))))))) (gS rfl (gS rfl (gS rfl (gS rfl (gS rfl (gS rfl (gS rfl (gS rfl (gS rfl g0))))))))) (gS rfl (gS rfl (gS rfl (gS rfl (gS rfl (gS rfl (gS rfl (gS rfl g0)))))))) (gS rfl (gS rfl (gS rfl (gS rfl (gS rfl (gS rfl (gS rfl g0))))))) (gS rfl (gS rfl (gS rfl (gS rfl (gS rfl (gS rfl g0)))))) g0 (fun g => ?_)
                                refine c_condV (i := 94) g0 rfl (fun cB6 => ?_) (fun cB6 => ?_)
                                · skip
                                  simp only [Bool.and_eq_true, Bool.or_eq_true, Bool.and_eq_false_imp, Bool.or_eq_false_iff, decide_eq_true_eq, decide_eq_false_iff_not] at cB6
                                  refine c_seq (fun K42 hK42 => ?_)
                                  exact (by
                                    refine c_region ?_
                                    refine l_step (y_moveV (et (gS rfl (gS rfl g0)) rfl)) ?_
                                    refine l_eff (e_callV cal_25 (aC (et g0 rfl) aN) (yp_word hF n5 (bd_up (bd_W q5) (by decide)))) (fun v43 w43 h43 => ?_)
                                    obtain ⟨rfl, u43⟩ := h43
                                    replace G := G.tr (Go.ofUp hF u43)
                                    replace hF := hF.up u43
                                    replace kS := kS.up u43
                                    replace kF := kF.up u43
                                    replace kM := kM.up u43
                                    replace kL := kL.up u43
                                    replace U := U.tr u43
                                    refine l_eff (e_alloc zr_28) (fun v44 w44 h44 => ?_)
                                    obtain ⟨b44, rfl, n44⟩ := h44
                                    have f44 : w.heap.size ≤ b44 := Nat.le_trans U.size n44.fresh
                                    have nb44 := hF.nb n44.fresh
                                    replace G := G.tr (Go.ofUp hF n44.up)
                                    replace hF := hF.up n44.up
                                    replace kS := kS.up n44.up
                                    replace kF := kF.up n44.up
                                    replace kM := kM.up n44.up
                                    replace kL := kL.up n44.up
                                    replace U := U.tr n44.up
                                    have k44 := n44.blk
                                    refine l_effN (e_store sz_28 (et g0 rfl) (cellsV (et (gS rfl g0) rfl) rfl) (by rw [length_bL, length_be]) (by exact one_bL _) k44 (by exact Nat.le_of_ble_eq_true rfl)) (fun v45 w45 h45 => ?_)
                                    obtain ⟨rfl, x45⟩ := h45
                                    replace kS := kS.ch x45.ch (by first | omega | (first | omega | exact hOo.ne (by omega) | exact fun e => (dL _ e).2.1 rfl))
                                    replace kF := kF.ch x45.ch (by first | omega | (first | omega | exact hOo.ne (by omega) | exact fun e => (dL _ e).2.2.1 rfl))
                                    replace kM := kM.ch x45.ch (by first | omega | (first | omega | exact hOo.ne (by omega) | exact fun e => (dL _ e).2.2.2 rfl))
                                    replace kL := kL.ch x45.ch (by first | omega | (intro q hq hm; first | (have := dL q hq; first | omega | (have := hOo.lim q hm.symm; omega) | (simp only at hm; omega)) | (cases hq; exact hq9.elim (fun h9 => by have := dL _ h9; omega) (fun h9 => by omega))))
                                    replace k44 := x45.blk.full (by rw [length_bL, length_be]; rfl)
                                    replace G := G.wr x45 (by first | exact .inr f44 | omega | (simp; omega)) nb44
                                    replace hF := G.fz
                                    replace U := U.st x45 (.inr f44)
                                    refine l_nil ?_
                                    refine hK42 _ _ ?_
                                    refine fg3 1 9 12 (gS rfl (gS rfl (gS rfl (gS rfl (gS rfl (gS rfl (gS rfl (gS rfl g0)))))))) (gS rfl (gS rfl (gS rfl (gS rfl (gS rfl (gS rfl g0)))))) g0 (fun g => ?_)
                                    refine c_region ?_
                                    exact (by
                                      refine l_step (y_moveV (et (gS rfl (gS rfl g0)) rfl)) ?_
                                      refine l_step (y_moveV (et (gS rfl (gS rfl g0)) rfl)) ?_
                                      refine l_step (y_slA000 Hvaa.underlying28 sz_5 (et (gS rfl (gS rfl g0)) rfl) ) ?_
                                      obtain ⟨Hz46, Gz46, hlz46, hez46, hnz46⟩ := G.hold' k44 f44
                                      replace G := Gz46
                                      replace hF := G.fz
                                      replace hX := hX.mono hlz46
                                      replace n3 := n3.mono hlz46
                                      replace n5 := n5.mono hlz46
                                      replace n7 := n7.mono hlz46
                                      replace hL0 := hL0.trans hlz46
                                      replace nbS := fun hh => (hnz46 _ hh).elim nbS (by omega)
                                      replace nbM := fun hh => (hnz46 _ hh).elim nbM (by omega)
                                      refine l_eff (e_callV cal_142 (aC (et (gS rfl (gS rfl g0)) rfl) (aC (et (gS rfl g0) rfl) (aC (et g0 rfl) aN))) (yp_write hF _ _ _ _ _ kF (hf.mono hL0) _ kM (Nat.lt_of_lt_of_le lM U.size) dMF nbM n3 (bd_up (bd_W q3) (by decide)) (BV.w32 hez46))) (fun v47 w47 h47 => ?_)
                                      obtain ⟨rfl, H47, g47, km47⟩ := h47
                                      have hlew47 := g47.le
                                      replace nbS := g47.nb nbS kS.lt
                                      replace nbM := g47.nb nbM (Nat.lt_of_lt_of_le lM U.size)
                                      replace hX := hX.mono hlew47
                                      replace n3 := n3.mono hlew47
                                      replace n5 := n5.mono hlew47
                                      replace n7 := n7.mono hlew47
                                      replace hL0 := hL0.trans hlew47
                                      replace kS := kS.ch g47.ch (by first | omega | exact hOo.ne (by omega) | exact fun e => (dL _ e).2.1 rfl)
                                      replace kF := kF.ch g47.ch (by first | omega | exact hOo.ne (by omega) | exact fun e => (dL _ e).2.2.1 rfl)
                                      replace kL := kL.ch g47.ch (by intro q hq hm; first | (have := dL q hq; first | omega | (have := hOo.lim q hm.symm; omega) | (simp only at hm; omega)) | (cases hq; exact hq9.elim (fun h9 => by have := dL _ h9; omega) (fun h9 => by omega)))
                                      replace kM := km47
                                      replace U := U.cc g47.ch (by intro b hb; first | exact .inl (.inl hb) | exact .inl (.inr (.inl hb)) | exact .inl (.inr (.inr hb)) | omega | exact .inl hb | exact .inr (by omega) | (simp at hb ⊢; omega))
                                      replace G := G.trans g47 (by intro b hb; first | exact .inl (.inl hb) | exact .inl (.inr (.inl hb)) | exact .inl (.inr (.inr hb)) | omega | exact .inl hb | exact .inr (by omega) | (simp at hb ⊢; omega))
                                      replace hF := g47.fz
                                      refine l_nil ?_
                                      refine hQ9 _ _ _ (in_normal ?_)
                                      refine hK8 _ _ ?_
                                      refine fg0 (fun g => ?_)
                                      refine c_seq (fun K48 hK48 => ?_)
                                      exact (by
                                        refine c_region ?_
                                        refine l_step y_assignC ?_
                                        refine l_nil ?_
                                        refine hK48 _ _ ?_
                                        refine c_ret ?_
                                        repeat with_reducible refine then_ret ?_
                                        refine ret1 rfl (res_tmp (et g0 rfl)) ?_
                                        refine ⟨_, _, _, _, by rw [effB, if_neg (by omega)], G, kS, by rw [effS, if_neg (by omega), if_neg (by omega), if_neg (by omega), if_neg (by omega)]; exact hs.mono hL0, by rw [effM, if_neg (by omega), if_neg (by omega), if_neg (by omega), if_neg (by omega), if_neg (by omega), if_pos (by omega)]; exact kM, by rw [effS, if_neg (by omega), if_neg (by omega), if_neg (by omega), if_neg (by omega)]; exact kL.mono hL0, (rS 4 _ rfl), fun b e => .inl e, fun b e => G.nb (nbL b e) (dL b e).1⟩)))
                                · skip
                                  simp only [Bool.and_eq_true, Bool.or_eq_true, Bool.and_eq_false_imp, Bool.or_eq_false_iff, decide_eq_true_eq, decide_eq_false_iff_not] at cB6
                                  refine c_seq (fun K49 hK49 => ?_)
                                  exact (by
                                    refine c_region ?_
                                    refine l_step (y_moveV (et (gS rfl (gS rfl (gS rfl (gS rfl (gS rfl (gS rfl g0)))))) rfl)) ?_
                                    refine l_step (y_eql (et g0 rfl) rfl) ?_
                                    refine l_step (y_assignV (et g0 rfl)) ?_
                                    refine l_nil ?_
                                    refine hK49 _ _ ?_
                                    refine fg7 3 2 1 0 9 10 103 (gS rfl (gS rfl (gS rfl (gS rfl (gS rfl (gS rfl (gS rfl (gS rfl (gS rfl (gS rfl g0)))))))))) (gS rfl (gS rfl (gS rfl (gS rfl (gS rfl (gS rfl (gS rfl (gS rfl (gS rfl g0))))))))) (gS rfl (gS rfl (gS rfl (gS rfl (gS rfl (gS rfl (gS rfl (gS rfl g0)))))))) (gS rfl (gS rfl (gS rfl (gS rfl (gS rfl (gS rfl (gS rfl g0))))))) (gS rfl (gS rfl (gS rfl (gS rfl (gS rfl (gS rfl g0)))))) (gS rfl (gS rfl (gS rfl (gS rfl (gS rfl g0))))) g0 (fun g => ?_)
                                    refine c_condV (i := 103) g0 rfl (fun cB7 => ?_) (fun cB7 => ?_)
                                    · skip
                                      simp only [Bool.and_eq_true, Bool.or_eq_true, Bool.and_eq_false_imp, Bool.or_eq_false_iff, decide_eq_true_eq, decide_eq_false_iff_not] at cB7
                                      refine c_seq (fun K51 hK51 => ?_)
                                      exact (by
                                        refine c_region ?_
                                        refine l_step (y_moveV (et (gS rfl (gS rfl g0)) rfl)) ?_
                                        refine l_eff (e_callV cal_25 (aC (et g0 rfl) aN) (yp_word hF n5 (bd_up (bd_W q5) (by decide)))) (fun v52 w52 h52 => ?_)
                                        obtain ⟨rfl, u52⟩ := h52
                                        replace G := G.tr (Go.ofUp hF u52)
                                        replace hF := hF.up u52
                                        replace kS := kS.up u52
                                        replace kF := kF.up u52
                                        replace kM := kM.up u52
                                        replace kL := kL.up u52
                                        replace U := U.tr u52
                                        refine l_eff (e_alloc zr_28) (fun v53 w53 h53 => ?_)
                                        obtain ⟨b53, rfl, n53⟩ := h53
                                        have f53 : w.heap.size ≤ b53 := Nat.le_trans U.size n53.fresh
                                        have nb53 := hF.nb n53.fresh
                                        replace G := G.tr (Go.ofUp hF n53.up)
                                        replace hF := hF.up n53.up
                                        replace kS := kS.up n53.up
                                        replace kF := kF.up n53.up
                                        replace kM := kM.up n53.up
                                        replace kL := kL.up n53.up
                                        replace U := U.tr n53.up
                                        have k53 := n53.blk
                                        refine l_effN (e_store sz_28 (et g0 rfl) (cellsV (et (gS rfl g0) rfl) rfl) (by rw [length_bL, length_be]) (by exact one_bL _) k53 (by exact Nat.le_of_ble_eq_true rfl)) (fun v54 w54 h54 => ?_)
                                        obtain ⟨rfl, x54⟩ := h54
                                        replace kS := kS.ch x54.ch (by first | omega | (first | omega | exact hOo.ne (by omega) | exact fun e => (dL _ e).2.1 rfl))
                                        replace kF := kF.ch x54.ch (by first | omega | (first | omega | exact hOo.ne (by omega) | exact fun e => (dL _ e).2.2.1 rfl))
                                        replace kM := kM.ch x54.ch (by first | omega | (first | omega | exact hOo.ne (by omega) | exact fun e => (dL _ e).2.2.2 rfl))
                                        replace kL := kL.ch x54.ch (by first | omega | (intro q hq hm; first | (have := dL q hq; first | omega | (have := hOo.lim q hm.symm; omega) | (simp only at hm; omega)) | (cases hq; exact hq9.elim (fun h9 => by have := dL _ h9; omega) (fun h9 => by omega))))
                                        replace k53 := x54.blk.full (by rw [length_bL, length_be]; rfl)
                                        replace G := G.wr x54 (by first | exact .inr f53 | omega | (simp; omega)) nb53
                                        replace hF := G.fz
                                        replace U := U.st x54 (.inr f53)
                                        refine l_nil ?_
                                        refine hK51 _ _ ?_
                                        refine fg3 1 9 13 (gS rfl (gS rfl (gS rfl (gS rfl (gS rfl (gS rfl (gS rfl (gS rfl g0)))))))) (gS rfl (gS rfl (gS rfl (gS rfl (gS rfl (gS rfl g0)))))) g0 (fun g => ?_)
                                        refine c_region ?_
                                        exact (by
                                          refine l_step (y_moveV (et (gS rfl (gS rfl g0)) rfl)) ?_
                                          refine l_step (y_moveV (et (gS rfl (gS rfl g0)) rfl)) ?_
                                          refine l_step (y_slA100 Hvaa.underlying28 sz_5 (et (gS rfl (gS rfl g0)) rfl) rfl ?_ ?_ ?_) ?_
                                          decide
                                          decide
                                          decide
                                          obtain ⟨Hz55, Gz55, hlz55, hez55, hnz55⟩ := G.hold' k53 f53
                                          replace G := Gz55
                                          replace hF := G.fz
                                          replace hX := hX.mono hlz55
                                          replace n3 := n3.mono hlz55
                                          replace n5 := n5.mono hlz55
                                          replace n7 := n7.mono hlz55
                                          replace hL0 := hL0.trans hlz55
                                          replace nbS := fun hh => (hnz55 _ hh).elim nbS (by omega)
                                          replace nbM := fun hh => (hnz55 _ hh).elim nbM (by omega)
                                          refine l_eff (e_callV cal_142 (aC (et (gS rfl (gS rfl g0)) rfl) (aC (et (gS rfl g0) rfl) (aC (et g0 rfl) aN))) (yp_write hF _ _ _ _ _ kF (hf.mono hL0) _ kM (Nat.lt_of_lt_of_le lM U.size) dMF nbM n3 (bd_up (bd_W q3) (by decide)) (BV.w31 hez55))) (fun v56 w56 h56 => ?_)
                                          obtain ⟨rfl, H56, g56, km56⟩ := h56
                                          have hlew56 := g56.le
                                          replace nbS := g56.nb nbS kS.lt
                                          replace nbM := g56.nb nbM (Nat.lt_of_lt_of_le lM U.size)
                                          replace hX := hX.mono hlew56
                                          replace n3 := n3.mono hlew56
                                          replace n5 := n5.mono hlew56
                                          replace n7 := n7.mono hlew56
                                          replace hL0 := hL0.trans hlew56
                                          replace kS := kS.ch g56.ch (by first | omega | exact hOo.ne (by omega) | exact fun e => (dL _ e).2.1 rfl)
                                          replace kF := kF.ch g56.ch (by first | omega | exact hOo.ne (by omega) | exact fun e => (dL _ e).2.2.1 rfl)
                                          replace kL := kL.ch g56.ch (by intro q hq hm; first | (have := dL q hq; first | omega | (have := hOo.lim q hm.symm; omega) | (simp only at hm; omega)) | (cases hq; exact hq9.elim (fun h9 => by have := dL _ h9; omega) (fun h9 => by omega)))
                                          replace kM := km56
                                          replace U := U.cc g56.ch (by intro b hb; first | exact .inl (.inl hb) | exact .inl (.inr (.inl hb)) | exact .inl (.inr (.inr hb)) | omega | exact .inl hb | exact .inr (by omega) | (simp at hb ⊢; omega))
                                          replace G := G.trans g56 (by intro b hb; first | exact .inl (.inl hb) | exact .inl (.inr (.inl hb)) | exact .inl (.inr (.inr hb)) | omega | exact .inl hb | exact .inr (by omega) | (simp at hb ⊢; omega))
                                          replace hF := g56.fz
                                          refine l_nil ?_
                                          refine hQ9 _ _ _ (in_normal ?_)
                                          refine hK8 _ _ ?_
                                          refine fg0 (fun g => ?_)
                                          refine c_seq (fun K57 hK57 => ?_)
                                          exact (by
                                            refine c_region ?_
                                            refine l_step y_assignC ?_
                                            refine l_nil ?_
                                            refine hK57 _ _ ?_
                                            refine c_ret ?_
                                            repeat with_reducible refine then_ret ?_
                                            refine ret1 rfl (res_tmp (et g0 rfl)) ?_
                                            refine ⟨_, _, _, _, by rw [effB, if_neg (by omega)], G, kS, by rw [effS, if_neg (by omega), if_neg (by omega), if_neg (by omega), if_neg (by omega)]; exact hs.mono hL0, by rw [effM, if_neg (by omega), if_neg (by omega), if_neg (by omega), if_neg (by omega), if_neg (by omega), if_neg (by omega), if_pos (by omega)]; exact kM, by rw [effS, if_neg (by omega), if_neg (by omega), if_neg (by omega), if_neg (by omega)]; exact kL.mono hL0, (rS 4 _ rfl), fun b e => .inl e, fun b e => G.nb (nbL b e) (dL b e).1⟩)))
                                    · skip
                                      simp only [Bool.and_eq_true, Bool.or_eq_true, Bool.and_eq_false_imp, Bool.or_eq_false_iff, decide_eq_true_eq, decide_eq_false_iff_not] at cB7
                                      refine c_seq (fun K58 hK58 => ?_)
                                      exact (by
                                        refine c_region ?_
                                        refine l_step (y_moveV (et (gS rfl (gS rfl (gS rfl (gS rfl (gS rfl (gS rfl g0)))))) rfl)) ?_
                                        refine l_step (y_eql (et g0 rfl) rfl) ?_
                                        refine l_step (y_assignV (et g0 rfl)) ?_
                                        refine l_nil ?_
                                        refine hK58 _ _ ?_
                                        refine fg7 3 2 1 0 9 10 112 (gS rfl (gS rfl (gS rfl (gS rfl (gS rfl (gS rfl (gS rfl (gS rfl (gS rfl (gS rfl g0)))))))))) (gS rfl (gS rfl (gS rfl (gS rfl (gS rfl (gS rfl (gS rfl (gS rfl (gS rfl g0))))))))) (gS rfl (gS rfl (gS rfl (gS rfl (gS rfl (gS rfl (gS rfl (gS rfl g0)))))))) (gS rfl (gS rfl (gS rfl (gS rfl (gS rfl (gS rfl (gS rfl g0))))))) (gS rfl (gS rfl (gS rfl (gS rfl (gS rfl (gS rfl g0)))))) (gS rfl (gS rfl (gS rfl (gS rfl (gS rfl g0))))) g0 (fun g => ?_)
                                        refine c_condV (i := 112) g0 rfl (fun cB8 => ?_) (fun cB8 => ?_)
                                        · skip
                                          simp only [Bool.and_eq_true, Bool.or_eq_true, Bool.and_eq_false_imp, Bool.or_eq_false_iff, decide_eq_true_eq, decide_eq_false_iff_not] at cB8
                                          refine c_seq (fun K60 hK60 => ?_)
                                          exact (by
                                            refine c_region ?_
                                            refine l_step (y_moveV (et (gS rfl (gS rfl (gS rfl (gS rfl g0)))) rfl)) ?_
                                            refine l_step (y_moveV (et (gS rfl (gS rfl (gS rfl (gS rfl (gS rfl (gS rfl g0)))))) rfl)) ?_
                                            refine l_step (y_moveV (et (gS rfl (gS rfl (gS rfl (gS rfl (gS rfl g0))))) rfl)) ?_
                                            refine l_step (y_moveV (et (gS rfl (gS rfl (gS rfl (gS rfl (gS rfl g0))))) rfl)) ?_
                                            refine l_eff (e_callV cal_235 (aC (et (gS rfl (gS rfl (gS rfl g0))) rfl) (aC (et (gS rfl (gS rfl g0)) rfl) (aC (et (gS rfl g0) rfl) (aC (et g0 rfl) aN)))) (yp_stores hF _ _ _ _ kS (hs.mono hL0) _ _ _ _ _ kF (hf.mono hL0) nbS dSF rm n3 n5 (bd_W q3) (bd_W q5))) (fun v61 w61 h61 => ?_)
                                            obtain ⟨cs61, H61, rfl, g61, ks61, sc61, e461⟩ := h61
                                            have hlew61 := g61.le
                                            replace nbS := g61.nb nbS kS.lt
                                            replace nbM := g61.nb nbM (Nat.lt_of_lt_of_le lM U.size)
                                            replace hX := hX.mono hlew61
                                            replace n3 := n3.mono hlew61
                                            replace n5 := n5.mono hlew61
                                            replace n7 := n7.mono hlew61
                                            replace hL0 := hL0.trans hlew61
                                            replace kF := kF.ch g61.ch (by first | omega | exact hOo.ne (by omega) | exact fun e => (dL _ e).2.2.1 rfl)
                                            replace kM := kM.ch g61.ch (by first | omega | exact hOo.ne (by omega) | exact fun e => (dL _ e).2.2.2 rfl)
                                            replace kL := kL.ch g61.ch (by intro q hq hm; first | (have := dL q hq; first | omega | (have := hOo.lim q hm.symm; omega) | (simp only at hm; omega)) | (cases hq; exact hq9.elim (fun h9 => by have := dL _ h9; omega) (fun h9 => by omega)))
                                            replace kS := ks61
                                            replace U := U.cc g61.ch (by intro b hb; first | exact .inl (.inl hb) | exact .inl (.inr (.inl hb)) | exact .inl (.inr (.inr hb)) | omega | exact .inl hb | exact .inr (by omega) | (simp at hb ⊢; omega))
                                            replace G := G.trans g61 (by intro b hb; first | exact .inl (.inl hb) | exact .inl (.inr (.inl hb)) | exact .inl (.inr (.inr hb)) | omega | exact .inl hb | exact .inr (by omega) | (simp at hb ⊢; omega))
                                            replace hF := g61.fz
                                            refine l_step (y_assignV (et g0 rfl)) ?_
                                            refine l_nil ?_
                                            refine hK60 _ _ ?_
                                            refine fg1 8 g0 (fun g => ?_)
                                            refine c_ret ?_
                                            refine hQ9 _ _ _ (in_ret ?_)
                                            repeat with_reducible refine then_ret ?_
                                            refine ret1 rfl (res_tmp (et g0 rfl)) ?_
                                            refine ⟨_, _, _, _, by rw [effB, if_pos (by omega)], G, kS, by rw [effS, if_neg (by omega), if_pos (by omega)]; exact sc61, by rw [effM, if_neg (by omega), if_neg (by omega), if_neg (by omega), if_neg (by omega), if_neg (by omega), if_neg (by omega), if_neg (by omega)]; exact kM, by rw [effS, if_neg (by omega), if_pos (by omega)]; (split <;> exact kL.mono hL0), e461.trans hvl, fun b e => .inl e, fun b e => G.nb (nbL b e) (dL b e).1⟩)
                                        · skip
                                          simp only [Bool.and_eq_true, Bool.or_eq_true, Bool.and_eq_false_imp, Bool.or_eq_false_iff, decide_eq_true_eq, decide_eq_false_iff_not] at cB8
                                          refine c_seq (fun K62 hK62 => ?_)
                                          exact (by
                                            refine c_region ?_
                                            refine l_step (y_moveV (et (gS rfl (gS rfl (gS rfl (gS rfl (gS rfl (gS rfl g0)))))) rfl)) ?_
                                            refine l_step (y_eql (et g0 rfl) rfl) ?_
                                            refine l_step (y_assignV (et g0 rfl)) ?_
                                            refine l_nil ?_
                                            refine hK62 _ _ ?_
                                            refine fg7 3 2 1 0 9 10 120 (gS rfl (gS rfl (gS rfl (gS rfl (gS rfl (gS rfl (gS rfl (gS rfl (gS rfl (gS rfl g0)))))))))) (gS rfl (gS rfl (gS rfl (gS rfl (gS rfl (gS rfl (gS rfl (gS rfl (gS rfl g0))))))))) (gS rfl (gS rfl (gS rfl (gS rfl (gS rfl (gS rfl (gS rfl (gS rfl g0)))))))) (gS rfl (gS rfl (gS rfl (gS rfl (gS rfl (gS rfl (gS rfl g0))))))) (gS rfl (gS rfl (gS rfl (gS rfl (gS rfl (gS rfl g0)))))) (gS rfl (gS rfl (gS rfl (gS rfl (gS rfl g0))))) g0 (fun g => ?_)
                                            refine c_condV (i := 120) g0 rfl (fun cB9 => ?_) (fun cB9 => ?_)
                                            · skip
                                              simp only [Bool.and_eq_true, Bool.or_eq_true, Bool.and_eq_false_imp, Bool.or_eq_false_iff, decide_eq_true_eq, decide_eq_false_iff_not] at cB9
                                              exact (by
                                                refine c_draw Up 9 [(0, true), (1, true), (2, true), (3, true), (4, true), (5, true), (6, true), (7, true), (8, true), (9, false)] (by kernel_rfl) (fun w64 hu => ⟨Up.refl _, ?_⟩)
                                                replace G := G.tr (Go.ofUp hF hu)
                                                replace hF := hF.up hu
                                                replace kS := kS.up hu
                                                replace kF := kF.up hu
                                                replace kM := kM.up hu
                                                replace kL := kL.up hu
                                                replace U := U.tr hu
                                                have SU := Up.refl w64
                                                refine p_step (by exact rfl) (y_moveV (et (gS rfl (gS rfl (gS rfl (gS rfl g0)))) rfl)) ?_
                                                refine p_step (by exact rfl) (y_nil (et g0 rfl)) ?_
                                                refine p_step (by exact rfl) (y_fld fld_102_0 (et g0 rfl)) ?_
                                                refine p_step (by exact rfl) (y_moveV (et (gS rfl (gS rfl (gS rfl (gS rfl (gS rfl (gS rfl (gS rfl (gS rfl g0)))))))) rfl)) ?_
                                                refine p_step (by exact rfl) (y_nil (et g0 rfl)) ?_
                                                refine p_step (by exact rfl) (y_fld fld_146_12 (et g0 rfl)) ?_
                                                refine p_step (by exact rfl) (y_loadR agg_25 sz_25 (et g0 rfl) (by rw [length_bL, length_be]) (atSR (kF.row rSe))) ?_
                                                refine p_step (by exact rfl) (y_moveV (et (gS rfl (gS rfl (gS rfl (gS rfl (gS rfl (gS rfl (gS rfl (gS rfl (gS rfl (gS rfl g0)))))))))) rfl)) ?_
                                                refine p_step (by exact rfl) (y_moveV (et (gS rfl (gS rfl (gS rfl (gS rfl (gS rfl (gS rfl (gS rfl (gS rfl (gS rfl (gS rfl g0)))))))))) rfl)) ?_
                                                refine p_eff (by exact rfl) (e_callV cal_236 (aC (et (gS rfl (gS rfl (gS rfl (gS rfl (gS rfl (gS rfl g0)))))) rfl) (aC (et (gS rfl (gS rfl g0)) rfl) (aC (et (gS rfl g0) rfl) (aC (et g0 rfl) aN)))) (yp_tstore _ _ _ _ _ _ _ _ _ hF kS nbS (rS 5 _ rfl) (hTm.mono hL0) fo.self (by omega) n3 (bd_up (bd_W q3) (by decide)) n5 (bd_up (bd_W q5) (by decide)))) (fun v65 w65 h65 => ?_)
                                                obtain ⟨rfl, z65, H65, g65, lv65, kx65⟩ := h65
                                                have hlew65 := g65.le
                                                replace nbS := g65.nb nbS kS.lt
                                                replace nbM := g65.nb nbM (Nat.lt_of_lt_of_le lM U.size)
                                                replace hX := hX.mono hlew65
                                                replace n3 := n3.mono hlew65
                                                replace n5 := n5.mono hlew65
                                                replace n7 := n7.mono hlew65
                                                replace hL0 := hL0.trans hlew65
                                                replace kF := kF.ch g65.ch (by first | omega | exact hOo.ne (by omega) | exact fun e => (dL _ e).2.2.1 rfl)
                                                replace kM := kM.ch g65.ch (by first | omega | exact hOo.ne (by omega) | exact fun e => (dL _ e).2.2.2 rfl)
                                                replace kL := kL.ch g65.ch (by intro q hq hm; first | (have := dL q hq; first | omega | (have := hOo.lim q hm.symm; omega) | (simp only at hm; omega)) | (cases hq; exact hq9.elim (fun h9 => by have := dL _ h9; omega) (fun h9 => by omega)))
                                                replace kS := kx65
                                                replace U := U.cc g65.ch (by intro b hb; first | exact .inl (.inl hb) | exact .inl (.inr (.inl hb)) | exact .inl (.inr (.inr hb)) | omega | exact .inl hb | exact .inr (by omega) | (simp at hb ⊢; omega))
                                                replace G := G.trans g65 (by intro b hb; first | exact .inl (.inl hb) | exact .inl (.inr (.inl hb)) | exact .inl (.inr (.inr hb)) | omega | exact .inl hb | exact .inr (by omega) | (simp at hb ⊢; omega))
                                                replace hF := g65.fz
                                                obtain ⟨xa65, xc65, rfl, hxl65, hxc65⟩ := lv65.val
                                                replace eC := kS.eset eC (by omega)
                                                replace rS : RowIn _ _ [.slice aa s.now.accts.length ac, .slice wa s.now.warmA.length wc, .slice sa s.now.warmS.length sc, vr, .slice la s.now.logs.length lc, _, .slice ma s.now.made.length mc, .slice ga s.now.gone.length gc, .slice oa s.start.length oc, vf, .slice ra s.ret.length rc, .int .u8 (s.phase : Nat), .int .u8 (s.status : Nat), .int .u8 (s.applied : Nat), vlim, vtx, vleft, vpr, vtot] := kS.rset rS 5 rfl
                                                replace rOr := kS.rseto rOr (by first | (left; omega) | (right; simp only [List.length_cons, List.length_nil, length_bL, length_be]; omega))
                                                replace rMd := kS.rseto rMd (by first | (left; omega) | (right; simp only [List.length_cons, List.length_nil, length_bL, length_be]; omega))
                                                refine ⟨.inl rfl, ?_⟩
                                                refine p_nil ?_
                                                refine hQ9 _ _ _ (in_normal ?_)
                                                refine hK8 _ _ ?_
                                                refine fg0 (fun g => ?_)
                                                refine c_seq (fun K66 hK66 => ?_)
                                                exact (by
                                                  refine c_region ?_
                                                  refine l_step y_assignC ?_
                                                  refine l_nil ?_
                                                  refine hK66 _ _ ?_
                                                  refine c_ret ?_
                                                  repeat with_reducible refine then_ret ?_
                                                  refine ret1 rfl (res_tmp (et g0 rfl)) ?_
                                                  refine ⟨_, _, _, _, by rw [effB, if_neg (by omega)], G, kS, by rw [effS, if_neg (by omega), if_neg (by omega), if_pos (by omega)]; exact ⟨⟨so.accts, so.warmA, so.warmS, so.refund, so.logs, by show (putT s.now.temps _ _ _).length < _; have := len_putT s.now.temps f.self (opndN xs 0) (opndN xs 1); have := rm.temps; omega, so.made, so.gone, so.start, so.ret, so.phase, so.status, so.applied, so.limit, so.txGas, so.left, so.price, so.total, so.origin, so.mad⟩, eC.mono hL0, (by simp only [size_spl, Array.size_setIfInBounds]; exact hs.size), _, _, _, _, _, _, _, _, _, _, _, _, _, _, _, _, _, _, _, _, _, _, _, _, rS, rOr, rMd, (hAc.mono hL0), (hWA.mono hL0), (hWS.mono hL0), (hRf.mono hL0), lv65, (hMd.mono hL0), (hGn.mono hL0), (hSr.mono hL0), (hRt.mono hL0), (hLm.mono hL0), (hTx.mono hL0), (hLf.mono hL0), (hPr.mono hL0), (hTt.mono hL0)⟩, by rw [effM, if_neg (by omega), if_neg (by omega), if_neg (by omega), if_neg (by omega), if_neg (by omega), if_neg (by omega), if_neg (by omega)]; exact kM, by rw [effS, if_neg (by omega), if_neg (by omega), if_pos (by omega)]; exact kL.mono hL0, (rS 4 _ rfl), fun b e => .inl e, fun b e => G.nb (nbL b e) (dL b e).1⟩))
                                            · skip
                                              simp only [Bool.and_eq_true, Bool.or_eq_true, Bool.and_eq_false_imp, Bool.or_eq_false_iff, decide_eq_true_eq, decide_eq_false_iff_not] at cB9
                                              refine c_seq (fun K67 hK67 => ?_)
                                              exact (by
                                                refine c_region ?_
                                                refine l_step (y_moveV (et (gS rfl (gS rfl (gS rfl (gS rfl (gS rfl (gS rfl g0)))))) rfl)) ?_
                                                refine l_step (y_geq (et g0 rfl) rfl) ?_
                                                refine l_step (y_moveV (et g0 rfl)) ?_
                                                refine l_gpure (j := 2) (t := 136) (by exact rfl) (by exact rfl) (et g0 rfl) rfl (fun hc => (y_moveV (et (gS rfl (gS rfl (gS rfl (gS rfl (gS rfl (gS rfl (gS rfl (gS rfl (gS rfl g0))))))))) rfl))) ?_
                                                refine l_gpure (j := 2) (t := 136) (by exact rfl) (by exact rfl) (et (gS rfl g0) rfl) rfl (fun hc => (y_leq (et (cT g0 hc) rfl) rfl)) ?_
                                                refine l_step (y_pickA (et (gS rfl (gS rfl g0)) rfl) (et g0 rfl) rfl) ?_
                                                refine l_step (y_assignV (et g0 rfl)) ?_
                                                refine l_nil ?_
                                                refine hK67 _ _ ?_
                                                refine fg6 3 1 0 9 10 133 (gS rfl (gS rfl (gS rfl (gS rfl (gS rfl (gS rfl (gS rfl (gS rfl (gS rfl (gS rfl (gS rfl (gS rfl (gS rfl (gS rfl g0)))))))))))))) (gS rfl (gS rfl (gS rfl (gS rfl (gS rfl (gS rfl (gS rfl (gS rfl (gS rfl (gS rfl (gS rfl (gS rfl g0)))))))))))) (gS rfl (gS rfl (gS rfl (gS rfl (gS rfl (gS rfl (gS rfl (gS rfl (gS rfl (gS rfl (gS rfl g0))))))))))) (gS rfl (gS rfl (gS rfl (gS rfl (gS rfl (gS rfl (gS rfl (gS rfl (gS rfl (gS rfl g0)))))))))) (gS rfl (gS rfl (gS rfl (gS rfl (gS rfl (gS rfl (gS rfl (gS rfl (gS rfl g0))))))))) g0 (fun g => ?_)
                                                refine c_condV (i := 133) g0 rfl (fun cB10 => ?_) (fun cB10 => ?_)
                                                · skip
                                                  simp only [Bool.and_eq_true, Bool.or_eq_true, Bool.and_eq_false_imp, Bool.or_eq_false_iff, decide_eq_true_eq, decide_eq_false_iff_not] at cB10
                                                  refine c_seq (fun K69 hK69 => ?_)
                                                  exact (by
                                                    refine fgv5 0 1 3 9 10 (gS rfl (gS rfl (gS rfl (gS rfl g0)))) (gS rfl (gS rfl (gS rfl (gS rfl (gS rfl g0))))) (gS rfl (gS rfl (gS rfl (gS rfl (gS rfl (gS rfl g0)))))) (gS rfl (gS rfl (gS rfl g0))) (gS rfl (gS rfl g0)) (fun g z0 z1 z3 z9 z10 e0 e1 e3 e9 e10 => ?_)
                                                    refine c_drawJ (fun s_ w_ => ∃ (g : Nat → Value) (b71 : Nat) (vd : Value) (Hj70 : Store), s_ = (upd (upd (upd g 0 z0) 3 z3) 14 (.pointer (some ⟨b71, 0, none⟩))) ∧ Go No w7 H w_ Hj70 ∧ w7.heap.size ≤ b71 ∧ Blk w_ b71 ((bL (be 20 f.self) ++ [.slice none 0 0, vd]).toArray) ∧ ¬ Hj70.has b71 ∧ (BV Hj70 vd (rdN f.mem (opndN xs 0) (opndN xs 1)))) Up 10 (.pure 0 (.pure 1 (.pure 2 (.pure 3 (.pure 4 (.pure 5 (.pure 6 (.two 7 (.pure 8 (.eff 9 (.eff 10 .fin))) 9 (.eff 7 (.pure 8 (.eff 10 .fin))))))))))) (by kernel_rfl) (fun w72 hu => ⟨Up.refl _, ?_⟩) ?_
                                                    · skip
                                                      subst e0 e1 e3 e9 e10
                                                      replace G := G.tr (Go.ofUp hF hu)
                                                      replace hF := hF.up hu
                                                      replace kS := kS.up hu
                                                      replace kF := kF.up hu
                                                      replace kM := kM.up hu
                                                      replace kL := kL.up hu
                                                      replace U := U.tr hu
                                                      have SU := Up.refl w72
                                                      have V70 : Go No w7 H w72 H := ⟨hu, hF, Le.refl _, fun _ h => .inl h⟩
                                                      refine t_step (by exact rfl) (y_moveV (et (gS rfl (gS rfl (gS rfl g0))) rfl)) ?_
                                                      refine t_step (by exact rfl) (y_nil (et g0 rfl)) ?_
                                                      refine t_step (by exact rfl) (y_fld fld_146_12 (et g0 rfl)) ?_
                                                      refine t_step (by exact rfl) (y_loadR agg_25 sz_25 (et g0 rfl) (by rw [length_bL, length_be]) (atSR (kF.row rSe))) ?_
                                                      refine t_step (by exact rfl) (y_moveV (et (gS rfl (gS rfl (gS rfl (gS rfl (gS rfl (gS rfl (gS rfl g0))))))) rfl)) ?_
                                                      refine t_step (by exact rfl) (y_moveV (et (gS rfl (gS rfl (gS rfl (gS rfl (gS rfl (gS rfl g0)))))) rfl)) ?_
                                                      refine t_step (by exact rfl) (y_moveV (et (gS rfl (gS rfl (gS rfl (gS rfl (gS rfl (gS rfl g0)))))) rfl)) ?_
                                                      refine t_two ?_ ?_
                                                      · skip
                                                        refine t_eff (by exact rfl) (e_callV cal_62 (aC (et (gS rfl (gS rfl g0)) rfl) (aC (et (gS rfl g0) rfl) (aC (et g0 rfl) aN))) (yp_read hF _ _ _ _ _ kF (hf.mono hL0) _ kM (Nat.lt_of_lt_of_le lM U.size) n3 n5 (bd_up (bd_W q3) (by decide)) (bd_up (bd_W q5) (by decide)) (hcp3 (by omega)))) (fun v73 w73 h73 => ?_)
                                                        obtain ⟨H73, g73, b73⟩ := h73
                                                        have hlew73 := g73.le
                                                        replace nbS := g73.nb nbS kS.lt
                                                        replace nbM := g73.nb nbM (Nat.lt_of_lt_of_le lM U.size)
                                                        replace hX := hX.mono hlew73
                                                        replace n3 := n3.mono hlew73
                                                        replace n5 := n5.mono hlew73
                                                        replace n7 := n7.mono hlew73
                                                        replace hL0 := hL0.trans hlew73
                                                        replace kS := kS.up g73.up
                                                        replace kF := kF.up g73.up
                                                        replace kM := kM.up g73.up
                                                        replace kL := kL.up g73.up
                                                        replace U := U.tr g73.up
                                                        replace G := G.tr g73
                                                        replace V70 := V70.tr g73
                                                        replace hF := g73.fz
                                                        refine ⟨.inr (SU.tr g73.up), ?_⟩
                                                        replace SU := SU.tr g73.up
                                                        obtain ⟨dsa, dsc, rfl, hds1, hds2⟩ := (b73.wv hF).val
                                                        have hb74 : ∀ w, (Instr.build 131 ([(0, (Value.agg (bL (be 20 f.self)).toArray)), (2, (.slice dsa (rdN f.mem (opndN xs 0) (opndN xs 1)).length dsc))] : List (Nat × Value)).toArray).run Hvaa.prog w = .ok (.agg ([(bL (be 20 f.self)), [.slice none 0 0], ([.slice dsa (rdN f.mem (opndN xs 0) (opndN xs 1)).length dsc])] : List (List Value)).flatten.toArray) w := bld_run zr_131 plc_131 (fill_flat (off := 0) (k := 20) (f := (List.replicate 20 (.int .u8 0))) (c := bL (be 20 f.self)) (v := (Value.agg (bL (be 20 f.self)).toArray)) rfl rfl (by first | (simp [length_bL, length_be, length_uL]; done) | rfl) (by first | rfl | (simp [length_bL, length_be, length_uL]; done)) rfl (by first | (simp [length_bL, length_be, length_uL]; done) | rfl) (fill_flat (off := 21) (k := 1) (f := [.slice none 0 0]) (c := [.slice dsa (rdN f.mem (opndN xs 0) (opndN xs 1)).length dsc]) (v := (.slice dsa (rdN f.mem (opndN xs 0) (opndN xs 1)).length dsc)) rfl rfl (by first | (simp [length_bL, length_be, length_uL]; done) | rfl) (by first | (simp [length_bL, length_be, length_uL]; done) | rfl) rfl (by first | (simp [length_bL, length_be, length_uL]; done) | rfl) (fill_nil _ _)))
                                                        refine t_step (by exact rfl) ((y_bld (bC (et (gS rfl (gS rfl (gS rfl (gS rfl g0)))) rfl) (bC (et g0 rfl) bN)) hb74).to (congrArg (fun l : List Value => Value.agg l.toArray) (show _ = bL (be 20 f.self) ++ [.slice none 0 0, .slice dsa (rdN f.mem (opndN xs 0) (opndN xs 1)).length dsc] by simp))) ?_
                                                        refine t_one ?_
                                                        refine t_eff (by exact rfl) (e_alloc zr_131) (fun v75 w75 h75 => ?_)
                                                        obtain ⟨b75, rfl, n75⟩ := h75
                                                        have f75 : w.heap.size ≤ b75 := Nat.le_trans U.size n75.fresh
                                                        have nb75 := hF.nb n75.fresh
                                                        have fS75 := Nat.le_trans SU.size n75.fresh
                                                        have fV70_75 := Nat.le_trans V70.ch.size n75.fresh
                                                        replace G := G.tr (Go.ofUp hF n75.up)
                                                        replace V70 := V70.tr (Go.ofUp hF n75.up)
                                                        replace hF := hF.up n75.up
                                                        replace kS := kS.up n75.up
                                                        replace kF := kF.up n75.up
                                                        replace kM := kM.up n75.up
                                                        replace kL := kL.up n75.up
                                                        replace U := U.tr n75.up
                                                        have k75 := n75.blk
                                                        refine ⟨.inr (SU.tr n75.up), ?_⟩
                                                        replace SU := SU.tr n75.up
                                                        refine t_one ?_
                                                        refine t_effN (by exact rfl) (e_store sz_131 (et g0 rfl) (cellsV (et (gS rfl g0) rfl) rfl) len22 (by exact one_app (one_two rfl rfl)) k75 (by exact Nat.le_of_ble_eq_true rfl)) (fun v76 w76 h76 => ?_)
                                                        obtain ⟨rfl, x76⟩ := h76
                                                        replace kS := kS.ch x76.ch (by first | omega | (first | omega | exact hOo.ne (by omega) | exact fun e => (dL _ e).2.1 rfl))
                                                        replace kF := kF.ch x76.ch (by first | omega | (first | omega | exact hOo.ne (by omega) | exact fun e => (dL _ e).2.2.1 rfl))
                                                        replace kM := kM.ch x76.ch (by first | omega | (first | omega | exact hOo.ne (by omega) | exact fun e => (dL _ e).2.2.2 rfl))
                                                        replace kL := kL.ch x76.ch (by first | omega | (intro q hq hm; first | (have := dL q hq; first | omega | (have := hOo.lim q hm.symm; omega) | (simp only at hm; omega)) | (cases hq; exact hq9.elim (fun h9 => by have := dL _ h9; omega) (fun h9 => by omega))))
                                                        replace k75 := x76.blk.full (by rw [len22]; rfl)
                                                        replace G := G.wr x76 (by first | exact .inr f75 | omega | (simp; omega)) nb75
                                                        replace V70 := V70.wr x76 (by first | exact .inr f75 | omega | (simp; omega)) nb75
                                                        replace hF := G.fz
                                                        replace U := U.st x76 (.inr f75)
                                                        refine ⟨.inl rfl, ?_⟩
                                                        refine tl3 0 3 14 (gS rfl (gS rfl (gS rfl (gS rfl (gS rfl (gS rfl (gS rfl (gS rfl (gS rfl (gS rfl (gS rfl (gS rfl (gS rfl (gS rfl g0)))))))))))))) (gS rfl (gS rfl (gS rfl (gS rfl (gS rfl (gS rfl (gS rfl (gS rfl (gS rfl (gS rfl (gS rfl (gS rfl g0)))))))))))) g0 (fun g => ?_)
                                                        exact ⟨g, _, _, _, rfl, V70, Nat.le_trans hu.size fS75, k75, nb75, b73⟩
                                                      · skip
                                                        refine t_eff (by exact rfl) (e_alloc zr_131) (fun v77 w77 h77 => ?_)
                                                        obtain ⟨b77, rfl, n77⟩ := h77
                                                        have f77 : w.heap.size ≤ b77 := Nat.le_trans U.size n77.fresh
                                                        have nb77 := hF.nb n77.fresh
                                                        have fS77 := Nat.le_trans SU.size n77.fresh
                                                        have fV70_77 := Nat.le_trans V70.ch.size n77.fresh
                                                        replace G := G.tr (Go.ofUp hF n77.up)
                                                        replace V70 := V70.tr (Go.ofUp hF n77.up)
                                                        replace hF := hF.up n77.up
                                                        replace kS := kS.up n77.up
                                                        replace kF := kF.up n77.up
                                                        replace kM := kM.up n77.up
                                                        replace kL := kL.up n77.up
                                                        replace U := U.tr n77.up
                                                        have k77 := n77.blk
                                                        refine ⟨.inr (SU.tr n77.up), ?_⟩
                                                        replace SU := SU.tr n77.up
                                                        refine t_one ?_
                                                        refine t_eff (by exact rfl) (e_callV cal_62 (aC (et (gS rfl (gS rfl (gS rfl g0))) rfl) (aC (et (gS rfl (gS rfl g0)) rfl) (aC (et (gS rfl g0) rfl) aN))) (yp_read hF _ _ _ _ _ kF (hf.mono hL0) _ kM (Nat.lt_of_lt_of_le lM U.size) n3 n5 (bd_up (bd_W q3) (by decide)) (bd_up (bd_W q5) (by decide)) (hcp3 (by omega)))) (fun v78 w78 h78 => ?_)
                                                        obtain ⟨H78, g78, b78⟩ := h78
                                                        have hlew78 := g78.le
                                                        replace nb77 := g78.nb nb77 k77.lt
                                                        replace nbS := g78.nb nbS kS.lt
                                                        replace nbM := g78.nb nbM (Nat.lt_of_lt_of_le lM U.size)
                                                        replace hX := hX.mono hlew78
                                                        replace n3 := n3.mono hlew78
                                                        replace n5 := n5.mono hlew78
                                                        replace n7 := n7.mono hlew78
                                                        replace hL0 := hL0.trans hlew78
                                                        replace k77 := k77.up g78.up
                                                        replace kS := kS.up g78.up
                                                        replace kF := kF.up g78.up
                                                        replace kM := kM.up g78.up
                                                        replace kL := kL.up g78.up
                                                        replace U := U.tr g78.up
                                                        replace G := G.tr g78
                                                        replace V70 := V70.tr g78
                                                        replace hF := g78.fz
                                                        refine ⟨.inr (SU.tr g78.up), ?_⟩
                                                        replace SU := SU.tr g78.up
                                                        obtain ⟨dsa, dsc, rfl, hds1, hds2⟩ := (b78.wv hF).val
                                                        have hb79 : ∀ w, (Instr.build 131 ([(0, (Value.agg (bL (be 20 f.self)).toArray)), (2, (.slice dsa (rdN f.mem (opndN xs 0) (opndN xs 1)).length dsc))] : List (Nat × Value)).toArray).run Hvaa.prog w = .ok (.agg ([(bL (be 20 f.self)), [.slice none 0 0], ([.slice dsa (rdN f.mem (opndN xs 0) (opndN xs 1)).length dsc])] : List (List Value)).flatten.toArray) w := bld_run zr_131 plc_131 (fill_flat (off := 0) (k := 20) (f := (List.replicate 20 (.int .u8 0))) (c := bL (be 20 f.self)) (v := (Value.agg (bL (be 20 f.self)).toArray)) rfl rfl (by first | (simp [length_bL, length_be, length_uL]; done) | rfl) (by first | rfl | (simp [length_bL, length_be, length_uL]; done)) rfl (by first | (simp [length_bL, length_be, length_uL]; done) | rfl) (fill_flat (off := 21) (k := 1) (f := [.slice none 0 0]) (c := [.slice dsa (rdN f.mem (opndN xs 0) (opndN xs 1)).length dsc]) (v := (.slice dsa (rdN f.mem (opndN xs 0) (opndN xs 1)).length dsc)) rfl rfl (by first | (simp [length_bL, length_be, length_uL]; done) | rfl) (by first | (simp [length_bL, length_be, length_uL]; done) | rfl) rfl (by first | (simp [length_bL, length_be, length_uL]; done) | rfl) (fill_nil _ _)))
                                                        refine t_step (by exact rfl) ((y_bld (bC (et (gS rfl (gS rfl (gS rfl (gS rfl (gS rfl g0))))) rfl) (bC (et g0 rfl) bN)) hb79).to (congrArg (fun l : List Value => Value.agg l.toArray) (show _ = bL (be 20 f.self) ++ [.slice none 0 0, .slice dsa (rdN f.mem (opndN xs 0) (opndN xs 1)).length dsc] by simp))) ?_
                                                        refine t_one ?_
                                                        refine t_effN (by exact rfl) (e_store sz_131 (et (gS rfl (gS rfl g0)) rfl) (cellsV (et g0 rfl) rfl) len22 (by exact one_app (one_two rfl rfl)) k77 (by exact Nat.le_of_ble_eq_true rfl)) (fun v80 w80 h80 => ?_)
                                                        obtain ⟨rfl, x80⟩ := h80
                                                        replace kS := kS.ch x80.ch (by first | omega | (first | omega | exact hOo.ne (by omega) | exact fun e => (dL _ e).2.1 rfl))
                                                        replace kF := kF.ch x80.ch (by first | omega | (first | omega | exact hOo.ne (by omega) | exact fun e => (dL _ e).2.2.1 rfl))
                                                        replace kM := kM.ch x80.ch (by first | omega | (first | omega | exact hOo.ne (by omega) | exact fun e => (dL _ e).2.2.2 rfl))
                                                        replace kL := kL.ch x80.ch (by first | omega | (intro q hq hm; first | (have := dL q hq; first | omega | (have := hOo.lim q hm.symm; omega) | (simp only at hm; omega)) | (cases hq; exact hq9.elim (fun h9 => by have := dL _ h9; omega) (fun h9 => by omega))))
                                                        replace k77 := x80.blk.full (by rw [len22]; rfl)
                                                        replace G := G.wr x80 (by first | exact .inr f77 | omega | (simp; omega)) nb77
                                                        replace V70 := V70.wr x80 (by first | exact .inr f77 | omega | (simp; omega)) nb77
                                                        replace hF := G.fz
                                                        replace U := U.st x80 (.inr f77)
                                                        refine ⟨.inl rfl, ?_⟩
                                                        refine tl3 0 3 14 (gS rfl (gS rfl (gS rfl (gS rfl (gS rfl (gS rfl (gS rfl (gS rfl (gS rfl (gS rfl (gS rfl (gS rfl (gS rfl (gS rfl g0)))))))))))))) (gS rfl (gS rfl (gS rfl (gS rfl (gS rfl (gS rfl (gS rfl (gS rfl (gS rfl (gS rfl (gS rfl (gS rfl g0)))))))))))) (gS rfl (gS rfl g0)) (fun g => ?_)
                                                        exact ⟨g, _, _, _, rfl, V70, Nat.le_trans hu.size fS77, k77, nb77, b78⟩
                                                    intro s_ w81 hJ
                                                    obtain ⟨g, b71, vd, Hj70, rfl, V70, fn71, kn71, nb71, hvd⟩ := hJ
                                                    subst e0 e1 e3 e9 e10
                                                    have f71 : w.heap.size ≤ b71 := Nat.le_trans U.size fn71
                                                    have hlew81 := V70.le
                                                    replace nbS := V70.nb nbS kS.lt
                                                    replace nbM := V70.nb nbM (Nat.lt_of_lt_of_le lM U.size)
                                                    replace hX := hX.mono hlew81
                                                    replace n3 := n3.mono hlew81
                                                    replace n5 := n5.mono hlew81
                                                    replace n7 := n7.mono hlew81
                                                    replace hL0 := hL0.trans hlew81
                                                    replace kS := kS.up V70.up
                                                    replace kF := kF.up V70.up
                                                    replace kM := kM.up V70.up
                                                    replace kL := kL.up V70.up
                                                    replace U := U.tr V70.up
                                                    replace G := G.tr V70
                                                    replace hF := V70.fz
                                                    have k71 := kn71
                                                    refine hK69 _ _ ?_
                                                    refine c_seq (fun K82 hK82 => ?_)
                                                    refine c_seq (fun K83 hK83 => ?_)
                                                    exact (by
                                                      refine c_region ?_
                                                      refine l_step (y_moveV (et (gS rfl g0) rfl)) ?_
                                                      have hz2 : 2 ≤ xs.length := hlg (by omega)
                                                      obtain ⟨zb, zo, rfl, hXd0⟩ := LV.dropg hX (m := 2) hz2 (by omega)
                                                      obtain ⟨za, hza⟩ : ∃ za, za = some (if xgc = 2 then (⟨zb, zo, none⟩ : Addr) else ⟨zb, zo + 2 * 1, none⟩) := ⟨_, rfl⟩
                                                      have hXd : LV P_nat 1 Hj70 (.slice za (xs.drop 2).length (xgc - 2)) (xs.drop 2) := by rw [hza, List.length_drop]; exact hXd0
                                                      have hXl : (xs.drop 2).length < 1000 := by rw [List.length_drop]; omega
                                                      refine l_step ((y_slS100g Hvaa.underlying144 sz_95 (et g0 rfl) rfl (by decide) ?_).to (show Value.slice (some (if xgc = (2 : Int).toNat then (⟨zb, zo, none⟩ : Addr) else ⟨zb, zo + (2 : Int).toNat * 1, none⟩)) (xs.length - (2 : Int).toNat) (xgc - (2 : Int).toNat) = .slice za (xs.drop 2).length (xgc - 2) by rw [hza, List.length_drop]; rfl)) ?_
                                                      (have := hz2; omega)
                                                      refine l_step (y_len Hvaa.underlying144 (et g0 rfl)) ?_
                                                      refine l_step y_moveC ?_
                                                      refine l_nil ?_
                                                      refine hK83 _ _ ?_
                                                      refine fg5 0 14 150 151 152 (gS rfl (gS rfl (gS rfl (gS rfl (gS rfl (gS rfl g0)))))) (gS rfl (gS rfl (gS rfl (gS rfl g0)))) (gS rfl (gS rfl g0)) (gS rfl g0) g0 (fun g => ?_)
                                                      refine c_block (fun Q84 hQ84 => ?_)
                                                      refine fg5 0 14 150 151 152 (gS rfl (gS rfl (gS rfl (gS rfl g0)))) (gS rfl (gS rfl (gS rfl g0))) (gS rfl (gS rfl g0)) (gS rfl g0) g0 (fun g => ?_)
                                                      obtain ⟨base, hbs⟩ : ∃ base, base = w81.heap.size := ⟨_, rfl⟩
                                                      have hbw : w.heap.size ≤ base := by rw [hbs]; exact U.size
                                                      have hb14 : b71 < base := by rw [hbs]; exact k71.lt
                                                      have hbS : bs < base := by omega
                                                      have hbF : bf < base := by omega
                                                      have hbM : bm < base := by omega
                                                      have hHb0 : ∀ q, Store.has _ q → q < base := fun q hq => by rw [hbs]; exact hF.lt hq
                                                      refine c_loop (fun k_ s_ W85 => ∃ (g : Nat → Value) (Hk85 : Store) (vt : Value) (i : Nat), s_ = (upd (upd (upd (upd (upd g 0 (.pointer (some ⟨bs, 0, none⟩))) 14 (.pointer (some ⟨b71, 0, none⟩))) 150 (.slice za (xs.drop 2).length (xgc - 2))) 151 (.int .i64 ((xs.drop 2).length : Nat))) 152 (.int .i64 (i : Nat))) ∧ (xs.drop 2).length - i = k_ ∧ (i ≤ (xs.drop 2).length) ∧ (GL P_word H base 28 32 W85.heap.size W85 vt ((xs.drop 2).take i)) ∧ (∀ q, Hk85.has q → q < base) ∧ Blk W85 b71 ((bL (be 20 f.self) ++ [vt, vd]).toArray) ∧ Go (fun k => k = b71 ∨ base ≤ k) w81 Hj70 W85 Hk85) ((xs.drop 2).length - (0)) ?_ ?_
                                                      · exact ⟨g, _, (.slice none 0 0), 0, rfl, rfl, Nat.zero_le _, by rw [List.take_zero]; exact GL.nil, hHb0, k71, Go.refl hF⟩
                                                      · skip
                                                        intro k_ s_ W85 hI K85 hK85
                                                        obtain ⟨g, Hk85, vt, i, rfl, rfl, hi, hO, hHb, nk71, V85⟩ := hI
                                                        have hle85 := V85.le
                                                        replace nb71 := V85.nb nb71 k71.lt
                                                        replace nbS := V85.nb nbS kS.lt
                                                        replace nbM := V85.nb nbM (Nat.lt_of_lt_of_le lM U.size)
                                                        replace hX := hX.mono hle85
                                                        replace n3 := n3.mono hle85
                                                        replace n5 := n5.mono hle85
                                                        replace n7 := n7.mono hle85
                                                        replace hvd := hvd.mono hle85
                                                        replace hXd := hXd.mono hle85
                                                        replace hL0 := hL0.trans hle85
                                                        replace G := G.trans V85 (by intro b hb; first | exact hb.elim | omega | (simp at hb ⊢; omega))
                                                        replace hF := V85.fz
                                                        replace kS := kS.ch V85.ch (by first | omega | exact hOo.ne (by omega) | exact fun e => (dL _ e).2.1 rfl)
                                                        replace kF := kF.ch V85.ch (by first | omega | exact hOo.ne (by omega) | exact fun e => (dL _ e).2.2.1 rfl)
                                                        replace kM := kM.ch V85.ch (by first | omega | exact hOo.ne (by omega) | exact fun e => (dL _ e).2.2.2 rfl)
                                                        replace kL := kL.ch V85.ch (by intro q hq hm; first | (have := dL q hq; first | omega | (have := hOo.lim q hm.symm; omega) | (simp only at hm; omega)) | (cases hq; exact hq9.elim (fun h9 => by have := dL _ h9; omega) (fun h9 => by omega)))
                                                        replace k71 := nk71
                                                        replace U := U.cc V85.ch (by intro b hb; first | exact hb.elim | omega | (simp at hb ⊢; omega))
                                                        have hbW : base ≤ W85.heap.size := by rw [hbs]; exact V85.ch.size
                                                        refine c_seq (fun K86 hK86 => ?_)
                                                        exact (by
                                                          refine c_region ?_
                                                          refine l_step (y_lss (et g0 rfl) (et (gS rfl g0) rfl)) ?_
                                                          refine l_nil ?_
                                                          refine hK86 _ _ ?_
                                                          refine c_seq (fun K87 hK87 => ?_)
                                                          refine c_condV (i := 153) g0 rfl (fun cB11 => ?_) (fun cB11 => ?_)
                                                          · skip
                                                            
                                                            have hil : i < (xs.drop 2).length := by have := of_decide_eq_true cB11; omega
                                                            refine c_skip ?_
                                                            refine hK87 _ _ ?_
                                                            refine fg5 0 14 150 151 152 (gS rfl (gS rfl (gS rfl (gS rfl (gS rfl (gS rfl g0)))))) (gS rfl (gS rfl (gS rfl (gS rfl (gS rfl g0))))) (gS rfl (gS rfl (gS rfl (gS rfl g0)))) (gS rfl (gS rfl (gS rfl g0))) (gS rfl (gS rfl g0)) (fun g => ?_)
                                                            refine c_seq (fun K89 hK89 => ?_)
                                                            refine c_block (fun Q90 hQ90 => ?_)
                                                            refine c_seq (fun K91 hK91 => ?_)
                                                            exact (by
                                                              refine c_region ?_
                                                              obtain ⟨ba, oa, va, ha, hcel, hnv, hvb⟩ := hXd.stk hF (i := i) hil
                                                              refine l_step (y_idxSa ha Hvaa.underlying144 sz_95 (et (gS rfl (gS rfl g0)) rfl) (et g0 rfl) ?_) ?_
                                                              omega
                                                              refine l_step (y_load1 one_95 (et g0 rfl) (at1 hcel)) ?_
                                                              refine l_step (y_assignV (et g0 rfl)) ?_
                                                              refine l_nil ?_
                                                              refine hK91 _ _ ?_
                                                              refine fg6 0 14 150 151 152 16 (gS rfl (gS rfl (gS rfl (gS rfl (gS rfl (gS rfl (gS rfl g0))))))) (gS rfl (gS rfl (gS rfl (gS rfl (gS rfl (gS rfl g0)))))) (gS rfl (gS rfl (gS rfl (gS rfl (gS rfl g0))))) (gS rfl (gS rfl (gS rfl (gS rfl g0)))) (gS rfl (gS rfl (gS rfl g0))) g0 (fun g => ?_)
                                                              refine c_draw (Ch (fun k => base ≤ k)) 7 [(0, true), (1, true), (2, true), (3, false), (4, false), (5, false), (6, true), (7, false)] (by kernel_rfl) (fun w92 hu => ⟨Ch.refl _ _, ?_⟩)
                                                              replace G := G.tr (Go.ofUp hF hu)
                                                              replace V85 := V85.tr (Go.ofUp hF hu)
                                                              replace hF := hF.up hu
                                                              replace k71 := k71.up hu
                                                              replace kS := kS.up hu
                                                              replace kF := kF.up hu
                                                              replace kM := kM.up hu
                                                              replace kL := kL.up hu
                                                              replace hO := hO.up hu
                                                              replace U := U.tr hu
                                                              have SU : (Ch (fun k => base ≤ k)) w92 w92 := Ch.refl _ _
                                                              refine p_step (by exact rfl) (y_fld fld_131_1 (et (gS rfl (gS rfl (gS rfl (gS rfl g0)))) rfl)) ?_
                                                              refine p_step (by exact rfl) (y_load1 one_29 (et g0 rfl) (atC (k71.cell ((app20 (i := 0) rfl).trans rfl)) (by first | omega | exact fun e => by have := dL _ e; omega))) ?_
                                                              refine p_step (by exact rfl) (y_moveV (et (gS rfl (gS rfl g0)) rfl)) ?_
                                                              refine p_eff (by exact rfl) (e_callV cal_25 (aC (et g0 rfl) aN) (yp_word hF hnv (bd_up (bd_W hvb) (by decide)))) (fun v93 w93 h93 => ?_)
                                                              obtain ⟨rfl, u93⟩ := h93
                                                              replace G := G.tr (Go.ofUp hF u93)
                                                              replace V85 := V85.tr (Go.ofUp hF u93)
                                                              replace hF := hF.up u93
                                                              replace k71 := k71.up u93
                                                              replace kS := kS.up u93
                                                              replace kF := kF.up u93
                                                              replace kM := kM.up u93
                                                              replace kL := kL.up u93
                                                              replace hO := hO.up u93
                                                              replace U := U.tr u93
                                                              refine ⟨.inr (SU.tr u93), ?_⟩
                                                              replace SU := SU.tr u93
                                                              exact (by
                                                                refine p_eff (by exact rfl) (e_slice1 (k := 31) Hvaa.underlying29 sz_28 zr_28 rfl (by decide) (et g0 rfl) (by rw [show (hV (xs.drop 2)[i]).cells = (bL (be 32 (xs.drop 2)[i])).toArray from rfl, List.size_toArray, length_bL, length_be])) (fun v94 w94 h94 => ?_)
                                                                obtain ⟨b94, rfl, n94⟩ := h94
                                                                replace G := G.tr (Go.ofUp hF n94.up)
                                                                replace V85 := V85.tr (Go.ofUp hF n94.up)
                                                                replace hF := hF.up n94.up
                                                                replace k71 := k71.up n94.up
                                                                replace kS := kS.up n94.up
                                                                replace kF := kF.up n94.up
                                                                replace kM := kM.up n94.up
                                                                replace kL := kL.up n94.up
                                                                replace hO := hO.up n94.up
                                                                replace U := U.tr n94.up
                                                                have kq94 : Blk w94 b94 (bL (be 32 (xs.drop 2)[i])).toArray := n94.blk
                                                                refine ⟨.inr (SU.tr n94.up), ?_⟩
                                                                replace SU := SU.tr n94.up
                                                                have hbz : base ≤ w94.heap.size := by rw [hbs]; exact V85.ch.size
                                                                refine p_eff (by exact rfl) (e_appL Hvaa.underlying29 sz_28 zr_28 by_28 rfl (by decide) (et (gS rfl (gS rfl (gS rfl g0))) rfl) hO (et g0 rfl) (by rw [length_bL, length_be]) kq94 (one_bL _) ⟨rfl, hvb⟩ (by decide) (by rw [List.length_take]; omega) hbz) (fun v95 w95 h95 => ?_)
                                                                obtain ⟨hO95, c95, hown95⟩ := h95
                                                                have hOo := hO
                                                                replace G := G.chs c95 (by intro b hb; have h9 := hOo.lim b hb.symm; first | exact .inr (by omega) | exact .inl (.inr (by omega)) | omega) (by intro q hq hh; have := hHb q hh; have := hOo.lim q hq.symm; omega)
                                                                replace V85 := V85.chs c95 (by intro b hb; have h9 := hOo.lim b hb.symm; first | exact .inr (by omega) | exact .inl (.inr (by omega)) | omega) (by intro q hq hh; have := hHb q hh; have := hOo.lim q hq.symm; omega)
                                                                replace hF := G.fz
                                                                replace k71 := k71.ch c95 (by first | omega | exact hOo.ne (by omega))
                                                                replace kS := kS.ch c95 (by first | omega | exact hOo.ne (by omega) | exact fun e => (dL _ e).2.1 rfl)
                                                                replace kF := kF.ch c95 (by first | omega | exact hOo.ne (by omega) | exact fun e => (dL _ e).2.2.1 rfl)
                                                                replace kM := kM.ch c95 (by first | omega | exact hOo.ne (by omega) | exact fun e => (dL _ e).2.2.2 rfl)
                                                                replace kL := kL.ch c95 (by intro q hq hm; first | (have := dL q hq; first | omega | (have := hOo.lim q hm.symm; omega) | (simp only at hm; omega)) | (cases hq; exact hq9.elim (fun h9 => by have := dL _ h9; omega) (fun h9 => by omega)))
                                                                replace hO := hO95
                                                                replace U := U.cc c95 (by intro b hb; have h9 := hOo.lim b hb.symm; first | exact .inr (by omega) | exact .inl (.inr (by omega)) | omega)
                                                                replace SU := SU.cc c95 (by intro b hb; first | exact .inl hb | omega | (have h9 := hOo.lim b hb.symm; first | exact .inl (by omega) | omega))
                                                                refine ⟨.inr SU, ?_⟩
                                                                exact (by
                                                                  refine p_step (by exact rfl) (y_fld fld_131_1 (et (gS rfl (gS rfl (gS rfl (gS rfl (gS rfl (gS rfl (gS rfl (gS rfl (gS rfl (gS rfl g0)))))))))) rfl)) ?_
                                                                  refine p_effN (by exact rfl) (e_store sz_29 (et g0 rfl) (cellsV (et (gS rfl g0) rfl) (cells_one hO.one1)) rfl (by exact one_sgl hO.one1) k71 (by rw [List.size_toArray, len22]; decide)) (fun v96 w96 h96 => ?_)
                                                                  obtain ⟨rfl, x96⟩ := h96
                                                                  replace kS := kS.ch x96.ch (by first | omega | (first | omega | exact hOo.ne (by omega) | exact fun e => (dL _ e).2.1 rfl))
                                                                  replace kF := kF.ch x96.ch (by first | omega | (first | omega | exact hOo.ne (by omega) | exact fun e => (dL _ e).2.2.1 rfl))
                                                                  replace kM := kM.ch x96.ch (by first | omega | (first | omega | exact hOo.ne (by omega) | exact fun e => (dL _ e).2.2.2 rfl))
                                                                  replace kL := kL.ch x96.ch (by first | omega | (intro q hq hm; first | (have := dL q hq; first | omega | (have := hOo.lim q hm.symm; omega) | (simp only at hm; omega)) | (cases hq; exact hq9.elim (fun h9 => by have := dL _ h9; omega) (fun h9 => by omega))))
                                                                  replace k71 := x96.blk
                                                                  replace hO := hO.wr x96 (by first | omega | (right; omega))
                                                                  replace G := G.wr x96 (by first | exact .inr f71 | omega | (simp; omega)) nb71
                                                                  replace V85 := V85.wr x96 (by first | exact .inr f71 | omega | (simp; omega)) nb71
                                                                  replace hF := G.fz
                                                                  replace U := U.st x96 (.inr f71)
                                                                  refine ⟨.inl rfl, ?_⟩
                                                                  rw [set20b] at k71
                                                                  refine p_nil ?_
                                                                  refine hQ90 _ _ _ (in_normal ?_)
                                                                  refine hK89 _ _ ?_
                                                                  refine fg5 0 14 150 151 152 (gS rfl (gS rfl (gS rfl (gS rfl (gS rfl (gS rfl (gS rfl (gS rfl (gS rfl (gS rfl (gS rfl (gS rfl g0)))))))))))) (gS rfl (gS rfl (gS rfl (gS rfl (gS rfl (gS rfl (gS rfl (gS rfl (gS rfl (gS rfl (gS rfl g0))))))))))) (gS rfl (gS rfl (gS rfl (gS rfl (gS rfl (gS rfl (gS rfl (gS rfl (gS rfl (gS rfl g0)))))))))) (gS rfl (gS rfl (gS rfl (gS rfl (gS rfl (gS rfl (gS rfl (gS rfl (gS rfl g0))))))))) (gS rfl (gS rfl (gS rfl (gS rfl (gS rfl (gS rfl (gS rfl (gS rfl g0)))))))) (fun g => ?_)
                                                                  refine c_region ?_
                                                                  refine l_step (y_add (et g0 rfl) rfl (addIN (y := 1) ?_)) ?_
                                                                  omega
                                                                  refine l_step (y_moveV (et g0 rfl)) ?_
                                                                  refine l_nil ?_
                                                                  refine fK5 0 14 150 151 152 (gS rfl (gS rfl (gS rfl (gS rfl (gS rfl (gS rfl g0)))))) (gS rfl (gS rfl (gS rfl (gS rfl (gS rfl g0))))) (gS rfl (gS rfl (gS rfl (gS rfl g0)))) (gS rfl (gS rfl (gS rfl g0))) g0 (fun g => ?_)
                                                                  exact hK85 ((xs.drop 2).length - ((i + 1))) _ _ (by omega) ⟨g, _, _, (i + 1), rfl, rfl, by omega, by rw [← List.take_append_getElem hil]; exact hO.mono x96.ch.size, hHb, k71, V85⟩)))
                                                          · skip
                                                            
                                                            have hil : ¬ i < (xs.drop 2).length := by have := of_decide_eq_false cB11; omega
                                                            rw [List.take_of_length_le (show (xs.drop 2).length ≤ i by omega)] at hO
                                                            obtain ⟨Hz97, Gz97, hlz97, lvz97, hnz97⟩ := hO.keep' mono_word G hL0 hbw
                                                            replace G := Gz97
                                                            replace hF := G.fz
                                                            replace hX := hX.mono hlz97
                                                            replace n3 := n3.mono hlz97
                                                            replace n5 := n5.mono hlz97
                                                            replace n7 := n7.mono hlz97
                                                            replace hvd := hvd.mono hlz97
                                                            replace hXd := hXd.mono hlz97
                                                            replace hL0 := hL0.trans hlz97
                                                            replace nb71 := fun hh => (hnz97 _ hh).elim nb71 (fun e => hO.ne (by omega) e)
                                                            replace nbS := fun hh => (hnz97 _ hh).elim nbS (fun e => hO.ne (by omega) e)
                                                            replace nbM := fun hh => (hnz97 _ hh).elim nbM (fun e => hO.ne (by omega) e)
                                                            refine c_exit ?_
                                                            refine hQ84 _ _ _ (in_exit ?_)
                                                            refine hK82 _ _ ?_
                                                            refine fg2 0 14 (gS rfl (gS rfl (gS rfl (gS rfl (gS rfl (gS rfl g0)))))) (gS rfl (gS rfl (gS rfl (gS rfl (gS rfl g0))))) (fun g => ?_)
                                                            exact (by
                                                              refine c_draw (Ch (fun k => ol = some k)) 12 [(0, true), (1, true), (2, true), (3, true), (4, true), (5, true), (6, true), (7, false), (8, false), (9, true), (10, true), (11, true), (12, false)] (by kernel_rfl) (fun w98 hu => ⟨Ch.refl _ _, ?_⟩)
                                                              replace G := G.tr (Go.ofUp hF hu)
                                                              replace hF := hF.up hu
                                                              replace k71 := k71.up hu
                                                              replace kS := kS.up hu
                                                              replace kF := kF.up hu
                                                              replace kM := kM.up hu
                                                              replace kL := kL.up hu
                                                              replace U := U.tr hu
                                                              have SU : (Ch (fun k => ol = some k)) w98 w98 := Ch.refl _ _
                                                              refine p_step (by exact rfl) (y_moveV (et (gS rfl g0) rfl)) ?_
                                                              refine p_step (by exact rfl) (y_moveV (et (gS rfl (gS rfl g0)) rfl)) ?_
                                                              refine p_step (by exact rfl) (y_nil (et g0 rfl)) ?_
                                                              refine p_step (by exact rfl) (y_fld fld_102_0 (et g0 rfl)) ?_
                                                              refine p_step (by exact rfl) (y_fld fld_98_4 (et g0 rfl)) ?_
                                                              refine p_step (by exact rfl) (y_load1 one_42 (et g0 rfl) (atC (kS.cell (rS 4 _ rfl)) (by first | omega | exact fun e => by have := dL _ e; omega))) ?_
                                                              refine p_step (by exact rfl) (y_loadB agg_131 sz_131 (et (gS rfl (gS rfl (gS rfl (gS rfl (gS rfl (gS rfl g0)))))) rfl) (by rw [List.size_toArray, len22]) (atCB k71 (by first | omega | exact fun e => by have := dL _ e; omega))) ?_
                                                              refine p_eff (by exact rfl) (e_slice1 Hvaa.underlying42 sz_131 zr_131 rfl (by decide) (et g0 rfl) (by rw [show (Value.agg ((bL (be 20 f.self) ++ [vt, vd])).toArray).cells = ((bL (be 20 f.self) ++ [vt, vd])).toArray from rfl, List.size_toArray, len22])) (fun v99 w99 h99 => ?_)
                                                              obtain ⟨b99, rfl, n99⟩ := h99
                                                              replace G := G.tr (Go.ofUp hF n99.up)
                                                              replace hF := hF.up n99.up
                                                              replace k71 := k71.up n99.up
                                                              replace kS := kS.up n99.up
                                                              replace kF := kF.up n99.up
                                                              replace kM := kM.up n99.up
                                                              replace kL := kL.up n99.up
                                                              replace U := U.tr n99.up
                                                              have kq99 : Blk w99 b99 ((bL (be 20 f.self) ++ [vt, vd])).toArray := n99.blk
                                                              refine ⟨.inr (SU.tr n99.up), ?_⟩
                                                              replace SU := SU.tr n99.up
                                                              refine p_eff (by exact rfl) (e_appG hF (et (gS rfl (gS rfl g0)) rfl) (kL.mono hL0) (et g0 rfl) len22 kq99 (one_app (one_two lvz97.one1 hvd.one1)) (log_cells lvz97 hvd fo.self) (by omega)) (fun v100 w100 h100 => ?_)
                                                              obtain ⟨p100, lg100, c100, hp100⟩ := h100
                                                              have nbq : ¬ Store.has _ p100 := hp100.elim (fun e => G.nb (nbL _ e) (dL _ e).1) (fun h => hF.nb h)
                                                              have hq9 : ol = some p100 ∨ w.heap.size ≤ p100 := orI hp100 id (fun h => Nat.le_trans U.size h)
                                                              replace G := G.chs c100 (by intro b hb; first | exact .inl (.inr (.inr hb)) | exact .inl hb) (by intro q hq; exact G.nb (nbL q hq) (dL q hq).1)
                                                              replace hF := G.fz
                                                              replace k71 := k71.ch c100 (by exact fun e => by have := dL _ e; omega)
                                                              replace kS := kS.ch c100 (by first | omega | exact hOo.ne (by omega) | exact fun e => (dL _ e).2.1 rfl)
                                                              replace kF := kF.ch c100 (by first | omega | exact hOo.ne (by omega) | exact fun e => (dL _ e).2.2.1 rfl)
                                                              replace kM := kM.ch c100 (by first | omega | exact hOo.ne (by omega) | exact fun e => (dL _ e).2.2.2 rfl)
                                                              replace kL := lg100
                                                              replace U := U.cc c100 (by intro b hb; first | exact .inl (.inr (.inr hb)) | exact .inl hb)
                                                              replace SU := SU.cc c100 (by intro b hb; first | exact .inl hb | omega | (have h9 := hOo.lim b hb.symm; first | exact .inl (by omega) | omega))
                                                              obtain ⟨ya, yc, rfl⟩ := lg100.sl
                                                              refine ⟨.inr SU, ?_⟩
                                                              exact (by
                                                                refine p_step (by exact rfl) (y_nil (et (gS rfl (gS rfl (gS rfl (gS rfl (gS rfl (gS rfl (gS rfl (gS rfl g0)))))))) rfl)) ?_
                                                                refine p_step (by exact rfl) (y_fld fld_102_0 (et g0 rfl)) ?_
                                                                refine p_step (by exact rfl) (y_fld fld_98_4 (et g0 rfl)) ?_
                                                                have rl101 := RowIn.le rS (Nat.succ_pos _)
                                                                simp only [List.length_cons, List.length_nil, Nat.zero_add, Nat.reduceAdd] at rl101
                                                                refine p_effN (by exact rfl) (e_store sz_42 (et g0 rfl) (cellsV (et (gS rfl (gS rfl (gS rfl g0))) rfl) rfl) rfl (by first | exact one_bL _ | exact one_uL _ | (intro v hv; simp at hv; subst hv; rfl)) kS (by first | exact Nat.le_of_ble_eq_true rfl | (simp; done) | (simp; omega) | omega)) (fun v101 w101 h101 => ?_)
                                                                obtain ⟨rfl, x101⟩ := h101
                                                                replace k71 := k71.ch x101.ch (by omega)
                                                                replace kF := kF.ch x101.ch (by first | omega | exact hOo.ne (by omega) | exact fun e => (dL _ e).2.2.1 rfl)
                                                                replace kM := kM.ch x101.ch (by first | omega | exact hOo.ne (by omega) | exact fun e => (dL _ e).2.2.2 rfl)
                                                                replace kL := kL.ch x101.ch (by intro q hq hm; first | (have := dL q hq; first | omega | (have := hOo.lim q hm.symm; omega) | (simp only at hm; omega)) | (cases hq; exact hq9.elim (fun h9 => by have := dL _ h9; omega) (fun h9 => by omega)))
                                                                replace kS := x101.blk
                                                                replace G := G.wr x101 (.inl (by first | rfl | (simp; done))) nbS
                                                                replace hF := G.fz
                                                                replace U := U.st x101 (.inl (by first | rfl | (simp; done)))
                                                                replace eC := kS.eput eC (by omega)
                                                                replace rS : RowIn _ _ [.slice aa s.now.accts.length ac, .slice wa s.now.warmA.length wc, .slice sa s.now.warmS.length sc, vr, _, .slice ta s.now.temps.length tc, .slice ma s.now.made.length mc, .slice ga s.now.gone.length gc, .slice oa s.start.length oc, vf, .slice ra s.ret.length rc, .int .u8 (s.phase : Nat), .int .u8 (s.status : Nat), .int .u8 (s.applied : Nat), vlim, vtx, vleft, vpr, vtot] := kS.rput rS 4 rfl
                                                                replace rOr := kS.rputo rOr (by first | (left; omega) | (right; simp only [List.length_cons, List.length_nil, length_bL, length_be]; omega))
                                                                replace rMd := kS.rputo rMd (by first | (left; omega) | (right; simp only [List.length_cons, List.length_nil, length_bL, length_be]; omega))
                                                                refine ⟨.inl rfl, ?_⟩
                                                                refine p_nil ?_
                                                                refine hQ9 _ _ _ (in_normal ?_)
                                                                refine hK8 _ _ ?_
                                                                refine fg0 (fun g => ?_)
                                                                refine c_seq (fun K102 hK102 => ?_)
                                                                exact (by
                                                                  refine c_region ?_
                                                                  refine l_step y_assignC ?_
                                                                  refine l_nil ?_
                                                                  refine hK102 _ _ ?_
                                                                  refine c_ret ?_
                                                                  repeat with_reducible refine then_ret ?_
                                                                  refine ret1 rfl (res_tmp (et g0 rfl)) ?_
                                                                  refine ⟨_, _, _, _, by rw [effB, if_neg (by omega)], G, kS, by rw [effS, if_neg (by omega), if_neg (by omega), if_neg (by omega), if_pos (by omega)]; exact ⟨⟨so.accts, so.warmA, so.warmS, so.refund, by show (s.now.logs ++ [_]).length < _; rw [List.length_append]; have := rm.logs; simp; omega, so.temps, so.made, so.gone, so.start, so.ret, so.phase, so.status, so.applied, so.limit, so.txGas, so.left, so.price, so.total, so.origin, so.mad⟩, eC.mono hL0, (by simp only [size_spl, Array.size_setIfInBounds]; exact hs.size), _, _, _, _, _, _, _, _, _, _, _, _, _, _, _, _, _, _, _, _, _, _, _, _, rS, rOr, rMd, (hAc.mono hL0), (hWA.mono hL0), (hWS.mono hL0), (hRf.mono hL0), (hTm.mono hL0), (hMd.mono hL0), (hGn.mono hL0), (hSr.mono hL0), (hRt.mono hL0), (hLm.mono hL0), (hTx.mono hL0), (hLf.mono hL0), (hPr.mono hL0), (hTt.mono hL0)⟩, by rw [effM, if_neg (by omega), if_neg (by omega), if_neg (by omega), if_neg (by omega), if_neg (by omega), if_neg (by omega), if_neg (by omega)]; exact kM, by rw [effS, if_neg (by omega), if_neg (by omega), if_neg (by omega), if_pos (by omega)]; exact kL, (rS 4 _ rfl), fun b e => by cases e; exact hq9, fun b e => by cases e; exact nbq⟩))))))
                                                · skip
                                                  simp only [Bool.and_eq_true, Bool.or_eq_true, Bool.and_eq_false_imp, Bool.or_eq_false_iff, decide_eq_true_eq, decide_eq_false_iff_not] at cB10
                                                  refine c_skip ?_
                                                  refine hQ9 _ _ _ (in_normal ?_)
                                                  refine hK8 _ _ ?_
                                                  refine fg0 (fun g => ?_)
                                                  refine c_seq (fun K103 hK103 => ?_)
                                                  exact (by
                                                    refine c_region ?_
                                                    refine l_step y_assignC ?_
                                                    refine l_nil ?_
                                                    refine hK103 _ _ ?_
                                                    refine c_ret ?_
                                                    repeat with_reducible refine then_ret ?_
                                                    refine ret1 rfl (res_tmp (et g0 rfl)) ?_
                                                    refine ⟨_, _, _, _, by rw [effB, if_neg (by omega)], G, kS, by rw [effS, if_neg (by omega), if_neg (by omega), if_neg (by omega), if_neg (by omega)]; exact hs.mono hL0, by rw [effM, if_neg (by omega), if_neg (by omega), if_neg (by omega), if_neg (by omega), if_neg (by omega), if_neg (by omega), if_neg (by omega)]; exact kM, by rw [effS, if_neg (by omega), if_neg (by omega), if_neg (by omega), if_neg (by omega)]; exact kL.mono hL0, (rS 4 _ rfl), fun b e => .inl e, fun b e => G.nb (nbL b e) (dL b e).1⟩)))))))))))))))
end Go.Proofs.YgvaawGreat
