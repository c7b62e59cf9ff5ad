import Derived.Test.YgvaawGreatY25
set_option maxRecDepth 100000
set_option maxHeartbeats 4000000
set_option linter.unusedSimpArgs false
set_option linter.unusedVariables false
namespace Go.Proofs.YgvaawGreat
open Go
theorem tk_facts {q : Nat} (h : q < 256) : (q = 86 → tkN q = 1) ∧ (q = 87 → tkN q = 2) ∧ (128 ≤ q ∧ q ≤ 143 → tkN q = q - 127) ∧ (144 ≤ q ∧ q ≤ 159 → tkN q = q - 142) ∧ (160 ≤ q ∧ q ≤ 164 → tkN q = q - 158) := by
  have : ∀ x : Fin 256, (x.1 = 86 → tkN x.1 = 1) ∧ (x.1 = 87 → tkN x.1 = 2) ∧ (128 ≤ x.1 ∧ x.1 ≤ 143 → tkN x.1 = x.1 - 127) ∧ (144 ≤ x.1 ∧ x.1 ≤ 159 → tkN x.1 = x.1 - 142) ∧ (160 ≤ x.1 ∧ x.1 ≤ 164 → tkN x.1 = x.1 - 158) := by decide
  exact this ⟨q, h⟩
structure UV (H : Store) (us : List Value) (f : Nat → Nat) : Prop where
  get : ∀ j u, us[j]? = some u → NV H u (f j) ∧ f j < W256
theorem UV.mono {H H' : Store} {us : List Value} {f : Nat → Nat} (h : UV H us f) (hl : Le H H') : UV H' us f := ⟨fun j u hu => ⟨(h.get j u hu).1.mono hl, (h.get j u hu).2⟩⟩
theorem UV.nil (H : Store) (f : Nat → Nat) : UV H [] f := ⟨fun j u hu => by simp at hu⟩
theorem UV.snoc {H : Store} {us : List Value} {f : Nat → Nat} {i : Nat} {u : Value} (h : UV H us f) (hl : us.length = i) (hu : NV H u (f i)) (hb : f i < W256) : UV H (us ++ [u]) f := ⟨fun j v hv => by
  rcases Nat.lt_or_ge j us.length with hj | hj
  · rw [List.getElem?_append_left hj] at hv; exact h.get j v hv
  · rw [List.getElem?_append_right hj] at hv
    have hj0 : j - us.length = 0 := by
      rcases Nat.eq_zero_or_pos (j - us.length) with h0 | h0
      · exact h0
      · rw [List.getElem?_eq_none (by simp; omega)] at hv; cases hv
    rw [hj0] at hv
    simp at hv
    subst hv
    rw [show j = i by omega]
    exact ⟨hu, hb⟩⟩
theorem flat1 : ∀ us : List Value, (us.map fun u => [u]).flatten = us
  | [] => rfl
  | u :: us => by rw [List.map_cons, List.flatten_cons, flat1 us]; rfl
theorem LV.ofUV {H : Store} {b n : Nat} {us : List Value} {f : Nat → Nat} (h : H b = some us.toArray) (u : UV H us f) (hl : us.length = n) (h63 : n < 9223372036854775808) : LV P_nat 1 H (.slice (some ⟨b, 0, none⟩) n n) ((List.range n).map f) := by
  refine ⟨us.map fun u => [u], ?_, by simp [hl], fun i c x hc hx => ?_⟩
  · rw [List.length_map, List.length_range, flat1]
    exact SV.of (by rw [hl, Nat.mul_one]) (Nat.le_refl _) h63 h (RowIn.self us)
  · rw [List.getElem?_map] at hc hx
    cases hu : us[i]? with
    | none => rw [hu] at hc; simp at hc
    | some v =>
      rw [hu] at hc
      simp at hc
      have hi : i < n := by rw [← hl]; exact (List.getElem?_eq_some_iff.1 hu).1
      rw [List.getElem?_range hi] at hx
      simp at hx
      subst hc hx
      exact ⟨rfl, v, rfl, (u.get i v hu).1, (u.get i v hu).2⟩
theorem fill_next {us : List Value} {m i : Nat} {z v : Value} (hl : us.length = i) (hi : i < m) : spl (us ++ List.replicate (m - i) z).toArray (0 + i * 1) [v] = ((us ++ [v]) ++ List.replicate (m - (i + 1)) z).toArray := by
  have e : List.replicate (m - i) z = z :: List.replicate (m - (i + 1)) z := by
    rw [show m - i = (m - (i + 1)) + 1 by omega, List.replicate_succ]
  rw [e, show 0 + i * 1 = i by omega]
  have h := spl_mid us z (List.replicate (m - (i + 1)) z) v i hl.symm
  rw [h]
  simp
def argL (f : YF) (q : Nat) : List Nat := (List.range (tkN q)).map (argN f.stack)
def plK (f : YF) (q : Nat) : List Nat := f.stack.take (f.stack.length - tkN q)
def plC (f : YF) (q : Nat) : Nat :=
  if q = 86 ∨ (q = 87 ∧ argN f.stack 1 ≠ 0) then 0 else if 128 ≤ q ∧ q ≤ 143 then 1 else if 144 ≤ q ∧ q ≤ 159 then 2 else if gvN q = 1 then 3 else 4
def swpL (g : Nat → Nat) (tk i : Nat) : List Nat := (List.range (tk - 2 - i)).map (fun j => g (tk - 2 - j))
def plStk (s : YSt) (f : YF) (q : Nat) : List Nat :=
  match plC f q with
  | 0 => plK f q
  | 1 => f.stack ++ [argN f.stack (tkN q - 1)]
  | 2 => plK f q ++ [argN f.stack 0] ++ swpL (argN f.stack) (tkN q) 0 ++ [argN f.stack (tkN q - 1)]
  | 3 => plK f q ++ [valN s f q (argL f q)]
  | _ => plK f q
def plPC (f : YF) (q : Nat) : Nat := match plC f q with | 0 => argN f.stack 0 | _ => f.pc + (1 + immN q)
def plS (s : YSt) (f : YF) (q : Nat) : YSt := match plC f q with | 3 => valS s f q (argL f q) | 4 => effS s f q (argL f q) | _ => s
def plM (s : YSt) (f : YF) (q : Nat) : List Nat := match plC f q with | 4 => effM s f q (argL f q) | _ => f.mem
def plF (s : YSt) (f : YF) (q : Nat) : YF := { f with stack := plStk s f q, pc := plPC f q, mem := plM s f q }
theorem argL_get {f : YF} {q i : Nat} (h : i < (argL f q).length) : (argL f q)[i] = argN f.stack i := by simp [argL]
theorem argL_len (f : YF) (q : Nat) : (argL f q).length = tkN q := by simp [argL]
theorem swp_next {g : Nat → Nat} {tk i : Nat} (h1 : 0 < i) (h2 : i ≤ tk - 2) : swpL g tk (i - 1) = swpL g tk i ++ [g i] := by
  unfold swpL
  rw [show tk - 2 - (i - 1) = (tk - 2 - i) + 1 by omega, List.range_succ, List.map_append, List.map_cons, List.map_nil, show tk - 2 - (tk - 2 - i) = i by omega]
theorem swp_top {g : Nat → Nat} {tk : Nat} : swpL g tk (tk - 2) = [] := by unfold swpL; rw [Nat.sub_self]; rfl
theorem swp_len (g : Nat → Nat) (tk i : Nat) : (swpL g tk i).length = tk - 2 - i := by simp [swpL]
/-- what a plain step needs; a structure, so that omega does not split on it -/
structure PlH (s : YSt) (f : YF) (q : Nat) : Prop where
  hjp : plC f q = 0 → argN f.stack 0 < 4294967296
  hOk : q = 85 → stoOk s f = true
  hrd : q = 32 → opndN (argL f q) 1 ≤ 1099511627776
  hcp : q = 55 ∨ q = 57 ∨ q = 62 ∨ q = 94 → opndN (argL f q) 2 ≤ 1099511627776
  hcp2 : q = 60 → opndN (argL f q) 3 ≤ 1099511627776
  hcp3 : 160 ≤ q ∧ q ≤ 164 → opndN (argL f q) 1 ≤ 1099511627776
structure Hid (p : Prop) : Prop where
  out : p
structure LeS (A H : Store) : Prop where
  le : Le A H
theorem LeS.mono {A H H' : Store} (h : LeS A H) (hl : Le H H') : LeS A H' := ⟨h.le.trans hl⟩
theorem valS_logs (s : YSt) (f : YF) (q : Nat) (xs : List Nat) : (valS s f q xs).now.logs = s.now.logs := by
  unfold valS
  repeat' split
  all_goals rfl
theorem effM_len (s : YSt) (f : YF) (q : Nat) (xs : List Nat) : (effM s f q xs).length = f.mem.length := by
  unfold effM
  repeat' split
  all_goals first | rfl | exact len_cp _ _ _ _ _ | exact len_wr _ _ _
theorem yp_plain (hKec : KSum) {w : World} {H : Store} (hF : Fz w H) (bs : Nat) (cs : Array Value) (s : YSt) (vf : Value) (kS : Blk w bs cs) (hs : SC H cs s vf) (bf o : Nat) (fs : Array Value) (f : YF) (vm : Value) (kF : Blk w bf fs) (hf : FC H fs o f vm) (bm : Nat) (kM : MB w bm vm f.mem) (lM : bm < w.heap.size) (q : Nat) (hq : q < 256) (nbS : ¬ H.has bs) (dSF : bs ≠ bf) (dMF : bm ≠ bf) (dSM : bs ≠ bm) (nbM : ¬ H.has bm) (nbF : ¬ H.has bf) (rm : SRm s) {ol : Option Nat} {vl : Value} (kL : LG w H ol vl s.now.logs) (hvl : cs[4]? = some vl) (dL : ∀ b, ol = some b → b < w.heap.size ∧ b ≠ bs ∧ b ≠ bf ∧ b ≠ bm) (nbL : ∀ b, ol = some b → ¬ H.has b) (htk : tkN q ≤ f.stack.length) (hsl : f.stack.length < 60000) (hpc : f.pc < 4294967000) (ph : PlH s f q) :
    Ret 67 [.pointer (some ⟨bs, 0, none⟩), .pointer (some ⟨bf, o, none⟩), .int .u8 q] w (fun v w' => v = .tuple #[] ∧ ∃ cs' fs' H' ol' vl', Go (fun k => k = bs ∨ k = bf ∨ k = bm ∨ ol = some k) w H w' H' ∧ Blk w' bs cs' ∧ SC H' cs' (plS s f q) vf ∧ Blk w' bf fs' ∧ FC H' fs' o (plF s f q) vm ∧ Out fs fs' o 60 ∧ MB w' bm vm (plF s f q).mem ∧ LG w' H' ol' vl' (plS s f q).now.logs ∧ cs'[4]? = some vl' ∧ (∀ b, ol' = some b → ol = some b ∨ w.heap.size ≤ b) ∧ (∀ b, ol' = some b → ¬ H'.has b)) := by
  obtain ⟨am, rfl⟩ := kM.val
  obtain ⟨aa, ac, wa, wc, sa, sc, vr, la, lc, ta, tc, ma, mc, ga, gc, oa, oc, ra, rc, vlim, vtx, vleft, vpr, vtot, rS, rOr, rMd, hAc, hWA, hWS, hRf, hTm, hMd, hGn, hSr, hRt, hLm, hTx, hLf, hPr, hTt⟩ := hs.ex
  have so := hs.ok
  have so1 := so.accts
  have so2 := so.warmA
  have so3 := so.warmS
  have so4 := so.temps
  have so5 := so.start
  have so6 := so.logs
  have so7 := so.made
  have so8 := so.gone
  have so9 := so.ret
  have eC := hs.env
  obtain ⟨vpc, vgas, vval, voo, vol, ka, kc, ca, cc, ia, ic, svc, rF, rSe, rCa, rSv, hSv, hPc, hGa, hVa, hOf, hOl, hSt, hCo, hIn⟩ := hf.ex
  have fo := hf.ok
  have fo1 := fo.stack
  have fo2 := fo.code
  have fo3 := fo.input
  have fo4 := fo.mem
  have lS := kS.lt
  have lF := kF.lt
  have lM0 := lM
  have hkc := hSt.cap
  have htl := tk_le hq
  have tf : Hid _ := ⟨tk_facts hq⟩
  have hpk : (plK f q).length = f.stack.length - tkN q := by rw [plK, List.length_take]; omega
  have hLk2 : LV P_nat 1 H (.slice ka (f.stack.length - tkN q) (f.stack.length - tkN q)) (plK f q) := LV.take0 hSt (by omega)
  have hLk : LV P_nat 1 H (.slice ka (plK f q).length (f.stack.length - tkN q)) (plK f q) := by rw [hpk]; exact hLk2
  have hfull : LV P_nat 1 H (.slice ka f.stack.length f.stack.length) f.stack := by have := LV.take0 hSt (m := f.stack.length) (Nat.le_refl _); rw [List.take_length] at this; exact this
  have oF := Out.refl fs o 60
  refine enter (n := 169) Hvaa.func67 rfl rfl (Nat.le_of_ble_eq_true rfl) ?_
  have U : Ch (fun k => k = bs ∨ k = bf ∨ k = bm ∨ ol = some k) w w := Ch.refl _ w
  have G : Go (fun k => k = bs ∨ k = bf ∨ k = bm ∨ ol = some k) w H w H := Go.refl hF
  have hL0 : Le H H := Le.refl H
  refine c_seq (fun K1 hK1 => ?_)
  exact (by
    refine c_region ?_
    refine l_step (y_moveV (et (gS rfl (gS rfl g0)) rfl)) ?_
    refine l_eff (e_callV cal_137 (aC (et g0 rfl) aN) (arity_spec _ _ hq)) (fun v2 w2 h2 => ?_)
    obtain ⟨rfl, u2⟩ := h2
    replace G := G.tr (Go.ofUp hF u2)
    replace hF := hF.up u2
    replace kS := kS.up u2
    replace kF := kF.up u2
    replace kM := kM.up u2
    replace kL := kL.up u2
    replace U := U.tr u2
    refine l_step (y_moveV (et g0 rfl)) ?_
    refine l_step (y_ext (et g0 rfl) rfl) ?_
    refine l_step (y_ext (et (gS rfl g0) rfl) rfl) ?_
    refine l_step (y_ext (et (gS rfl (gS rfl g0)) rfl) rfl) ?_
    refine l_step (y_assignV (et (gS rfl (gS rfl g0)) rfl)) ?_
    refine l_step (y_assignV (et (gS rfl (gS rfl g0)) rfl)) ?_
    refine l_step (y_assignV (et (gS rfl (gS rfl g0)) rfl)) ?_
    refine l_nil ?_
    refine hK1 _ _ ?_
    refine fg5 2 1 0 6 7 (gS rfl (gS rfl (gS rfl (gS rfl (gS rfl (gS rfl (gS rfl (gS rfl (gS rfl (gS rfl (gS rfl g0))))))))))) (gS rfl (gS rfl (gS rfl (gS rfl (gS rfl (gS rfl (gS rfl (gS rfl (gS rfl (gS rfl g0)))))))))) (gS rfl (gS rfl (gS rfl (gS rfl (gS rfl (gS rfl (gS rfl (gS rfl (gS rfl g0))))))))) (gS rfl (gS rfl g0)) (gS rfl g0) (fun g => ?_)
    refine c_seq (fun K3 hK3 => ?_)
    exact (by
      refine c_region ?_
      refine l_step (y_moveV (et (gS rfl g0) rfl)) ?_
      refine l_eff (e_make Hvaa.underlying144 sz_95 zr_95 by_95 (et g0 rfl) (et g0 rfl) (by omega) (by omega)) (fun v4 w4 h4 => ?_)
      obtain ⟨b4, rfl, n4⟩ := h4
      have f4 : w.heap.size ≤ b4 := Nat.le_trans U.size n4.fresh
      have nb4 := hF.nb n4.fresh
      replace G := G.tr (Go.ofUp hF n4.up)
      replace hF := hF.up n4.up
      replace kS := kS.up n4.up
      replace kF := kF.up n4.up
      replace kM := kM.up n4.up
      replace kL := kL.up n4.up
      replace U := U.tr n4.up
      have k4 := n4.blk
      replace k4 : Blk w4 b4 (List.replicate (tkN q) (Value.slice none 0 0)).toArray := by
        have h9 := k4
        rw [Nat.mul_one, show (Value.slice none 0 0).cells = #[.slice none 0 0] from rfl, size_madeZ _ rfl] at h9
        exact h9
      refine l_step (y_assignV (et g0 rfl)) ?_
      refine l_nil ?_
      refine hK3 _ _ ?_
      refine fg6 2 1 0 6 7 9 (gS rfl (gS rfl (gS rfl (gS rfl (gS rfl (gS rfl (gS rfl g0))))))) (gS rfl (gS rfl (gS rfl (gS rfl (gS rfl (gS rfl g0)))))) (gS rfl (gS rfl (gS rfl (gS rfl (gS rfl g0))))) (gS rfl (gS rfl (gS rfl (gS rfl g0)))) (gS rfl (gS rfl (gS rfl g0))) g0 (fun g => ?_)
      refine c_seq (fun K5 hK5 => ?_)
      refine c_seq (fun K6 hK6 => ?_)
      exact (by
        refine c_region ?_
        refine l_step (y_moveV (et g0 rfl)) ?_
        refine l_step (y_len Hvaa.underlying144 (et g0 rfl)) ?_
        refine l_step y_moveC ?_
        refine l_nil ?_
        refine hK6 _ _ ?_
        refine fg8 2 1 0 6 7 9 23 24 (gS rfl (gS rfl (gS rfl (gS rfl (gS rfl (gS rfl (gS rfl (gS rfl g0)))))))) (gS rfl (gS rfl (gS rfl (gS rfl (gS rfl (gS rfl (gS rfl g0))))))) (gS rfl (gS rfl (gS rfl (gS rfl (gS rfl (gS rfl g0)))))) (gS rfl (gS rfl (gS rfl (gS rfl (gS rfl g0))))) (gS rfl (gS rfl (gS rfl (gS rfl g0)))) (gS rfl (gS rfl (gS rfl g0))) (gS rfl g0) g0 (fun g => ?_)
        refine c_block (fun Q7 hQ7 => ?_)
        refine fg8 0 1 2 6 7 9 23 24 (gS rfl (gS rfl (gS rfl (gS rfl (gS rfl g0))))) (gS rfl (gS rfl (gS rfl (gS rfl (gS rfl (gS rfl g0)))))) (gS rfl (gS rfl (gS rfl (gS rfl (gS rfl (gS rfl (gS rfl g0))))))) (gS rfl (gS rfl (gS rfl (gS rfl g0)))) (gS rfl (gS rfl (gS rfl g0))) (gS rfl (gS rfl g0)) (gS rfl g0) g0 (fun g => ?_)
        refine c_loop (fun k_ s_ W8 => ∃ (g : Nat → Value) (Hk8 : Store) (us : List Value) (i : Nat), s_ = (upd (upd (upd (upd (upd (upd (upd (upd g 0 (.pointer (some ⟨bs, 0, none⟩))) 1 (.pointer (some ⟨bf, o, none⟩))) 2 (.int .u8 (q : Nat))) 6 (.int .i64 (tkN q : Nat))) 7 (.int .i64 (gvN q : Nat))) 9 (.slice (some ⟨b4, 0, none⟩) (tkN q) (tkN q))) 23 (.int .i64 (tkN q : Nat))) 24 (.int .i64 (i : Nat))) ∧ tkN q - i = k_ ∧ (i ≤ tkN q) ∧ (us.length = i) ∧ (UV Hk8 us (argN f.stack)) ∧ Blk W8 b4 ((us ++ List.replicate (tkN q - i) (Value.slice none 0 0)).toArray) ∧ Go (fun k => k = b4) w4 H W8 Hk8) (tkN q - (0)) ?_ ?_
        · exact ⟨g, _, [], 0, rfl, rfl, Nat.zero_le _, rfl, UV.nil _ _, k4, Go.refl hF⟩
        · skip
          intro k_ s_ W8 hI K8 hK8
          obtain ⟨g, Hk8, us, i, rfl, rfl, hi, hul, hus, nk4, V8⟩ := hI
          have hle8 := V8.le
          replace nb4 := V8.nb nb4 k4.lt
          replace nbS := V8.nb nbS kS.lt
          replace nbF := V8.nb nbF kF.lt
          replace nbM := V8.nb nbM (Nat.lt_of_lt_of_le lM U.size)
          replace hL0 := hL0.trans hle8
          replace G := G.trans V8 (by intro b hb; first | exact hb.elim | omega | (simp at hb ⊢; omega))
          replace hF := V8.fz
          replace kS := kS.ch V8.ch (by first | omega | exact hOo.ne (by omega))
          replace kF := kF.ch V8.ch (by first | (intro hm; rcases hm with hm | hm | hm; omega; omega; exact (dL _ hm).2.2.1 rfl) | omega | exact hOo.ne (by omega))
          replace kM := kM.ch V8.ch (by first | omega | exact hOo.ne (by omega))
          replace kL := kL.ch V8.ch (by intro q hq hm; first | (have := dL q hq; first | omega | (have := hOo.lim q hm.symm; omega) | (simp only at hm; omega)) | (rcases ho9 q hq with h9 | h9; have := dL _ h9; omega; omega))
          replace k4 := nk4
          replace U := U.cc V8.ch (by intro b hb; first | exact hb.elim | omega | (simp at hb ⊢; omega))
          refine c_seq (fun K9 hK9 => ?_)
          exact (by
            refine c_region ?_
            refine l_step (y_lss (et g0 rfl) (et (gS rfl g0) rfl)) ?_
            refine l_nil ?_
            refine hK9 _ _ ?_
            refine c_seq (fun K10 hK10 => ?_)
            refine c_condV (i := 25) g0 rfl (fun cB1 => ?_) (fun cB1 => ?_)
            · skip
              
              have hil : i < tkN q := by have := of_decide_eq_true cB1; omega
              refine c_skip ?_
              refine hK10 _ _ ?_
              refine fg8 0 1 2 6 7 9 23 24 (gS rfl (gS rfl (gS rfl (gS rfl (gS rfl (gS rfl (gS rfl (gS rfl (gS rfl g0))))))))) (gS rfl (gS rfl (gS rfl (gS rfl (gS rfl (gS rfl (gS rfl (gS rfl g0)))))))) (gS rfl (gS rfl (gS rfl (gS rfl (gS rfl (gS rfl (gS rfl g0))))))) (gS rfl (gS rfl (gS rfl (gS rfl (gS rfl (gS rfl g0)))))) (gS rfl (gS rfl (gS rfl (gS rfl (gS rfl g0))))) (gS rfl (gS rfl (gS rfl (gS rfl g0)))) (gS rfl (gS rfl (gS rfl g0))) (gS rfl (gS rfl g0)) (fun g => ?_)
              refine c_seq (fun K12 hK12 => ?_)
              refine c_block (fun Q13 hQ13 => ?_)
              refine c_seq (fun K14 hK14 => ?_)
              exact (by
                refine c_region ?_
                refine l_step (y_moveV (et g0 rfl)) ?_
                refine l_step (y_assignV (et g0 rfl)) ?_
                refine l_nil ?_
                refine hK14 _ _ ?_
                refine fg9 0 1 2 6 7 9 23 24 10 (gS rfl (gS rfl (gS rfl (gS rfl (gS rfl (gS rfl (gS rfl (gS rfl (gS rfl g0))))))))) (gS rfl (gS rfl (gS rfl (gS rfl (gS rfl (gS rfl (gS rfl (gS rfl g0)))))))) (gS rfl (gS rfl (gS rfl (gS rfl (gS rfl (gS rfl (gS rfl g0))))))) (gS rfl (gS rfl (gS rfl (gS rfl (gS rfl (gS rfl g0)))))) (gS rfl (gS rfl (gS rfl (gS rfl (gS rfl g0))))) (gS rfl (gS rfl (gS rfl (gS rfl g0)))) (gS rfl (gS rfl (gS rfl g0))) (gS rfl (gS rfl g0)) g0 (fun g => ?_)
                refine c_region ?_
                refine l_step (y_moveV (et (gS rfl (gS rfl (gS rfl g0))) rfl)) ?_
                refine l_step (y_moveV (et (gS rfl g0) rfl)) ?_
                refine l_step (y_moveV (et (gS rfl (gS rfl (gS rfl (gS rfl (gS rfl (gS rfl (gS rfl (gS rfl (gS rfl g0))))))))) rfl)) ?_
                refine l_step (y_moveV (et (gS rfl (gS rfl (gS rfl g0))) rfl)) ?_
                refine l_eff (e_callV cal_63 (aC (et (gS rfl g0) rfl) (aC (et g0 rfl) aN)) (yp_arg _ _ i _ _ _ _ _ _ hF kF (rF 8 _ rfl) (hSt.mono hL0) (by omega) (by first | decide | omega))) (fun v15 w15 h15 => ?_)
                obtain ⟨u15, n15, q15⟩ := h15
                replace G := G.tr (Go.ofUp hF u15)
                replace V8 := V8.tr (Go.ofUp hF u15)
                replace hF := hF.up u15
                replace k4 := k4.up u15
                replace kS := kS.up u15
                replace kF := kF.up u15
                replace kM := kM.up u15
                replace kL := kL.up u15
                replace U := U.tr u15
                obtain ⟨sq1, sq2, sq3, rfl⟩ := n15.sl
                refine l_step (y_idxSa rfl Hvaa.underlying144 sz_95 (et (gS rfl (gS rfl (gS rfl (gS rfl g0)))) rfl) (et (gS rfl (gS rfl (gS rfl g0))) rfl) ?_) ?_
                omega
                refine l_effN (e_store sz_95 (et g0 rfl) (cellsV (et (gS rfl g0) rfl) rfl) rfl (by intro u hu; simp at hu; subst hu; rfl) k4 (by simp [List.length_append]; omega)) (fun v16 w16 h16 => ?_)
                obtain ⟨rfl, x16⟩ := h16
                replace kS := kS.ch x16.ch (by first | omega | (first | omega | exact hOo.ne (by omega)))
                replace kF := kF.ch x16.ch (by first | omega | (first | (intro hm; rcases hm with hm | hm | hm; omega; omega; exact (dL _ hm).2.2.1 rfl) | omega | exact hOo.ne (by omega)))
                replace kM := kM.ch x16.ch (by first | omega | (first | omega | exact hOo.ne (by omega)))
                replace kL := kL.ch x16.ch (by first | omega | (intro q hq hm; first | (have := dL q hq; first | omega | (have := hOo.lim q hm.symm; omega) | (simp only at hm; omega)) | (rcases ho9 q hq with h9 | h9; have := dL _ h9; omega; omega)))
                replace k4 := x16.blk
                replace G := G.wr x16 (by first | exact .inr f4 | omega | (simp; omega)) nb4
                replace V8 := V8.wr x16 (by first | exact .inr f4 | omega | (simp; omega)) nb4
                replace hF := G.fz
                replace U := U.st x16 (.inr f4)
                rw [fill_next hul hil] at k4
                refine l_nil ?_
                refine hQ13 _ _ _ (in_normal ?_)
                refine hK12 _ _ ?_
                refine fg8 0 1 2 6 7 9 23 24 (gS rfl (gS rfl (gS rfl (gS rfl (gS rfl (gS rfl (gS rfl (gS rfl (gS rfl (gS rfl (gS rfl (gS rfl (gS rfl (gS rfl g0)))))))))))))) (gS rfl (gS rfl (gS rfl (gS rfl (gS rfl (gS rfl (gS rfl (gS rfl (gS rfl (gS rfl (gS rfl (gS rfl (gS rfl g0))))))))))))) (gS rfl (gS rfl (gS rfl (gS rfl (gS rfl (gS rfl (gS rfl (gS rfl (gS rfl (gS rfl (gS rfl (gS rfl g0)))))))))))) (gS rfl (gS rfl (gS rfl (gS rfl (gS rfl (gS rfl (gS rfl (gS rfl (gS rfl (gS rfl (gS rfl g0))))))))))) (gS rfl (gS rfl (gS rfl (gS rfl (gS rfl (gS rfl (gS rfl (gS rfl (gS rfl (gS rfl g0)))))))))) (gS rfl (gS rfl (gS rfl (gS rfl (gS rfl (gS rfl (gS rfl (gS rfl (gS rfl g0))))))))) (gS rfl (gS rfl (gS rfl (gS rfl (gS rfl (gS rfl (gS rfl (gS rfl g0)))))))) (gS rfl (gS rfl (gS rfl (gS rfl (gS rfl (gS rfl (gS rfl g0))))))) (fun g => ?_)
                refine c_region ?_
                exact (by
                  refine l_step (y_add (et g0 rfl) rfl (addIN (y := 1) ?_)) ?_
                  omega
                  refine l_step (y_moveV (et g0 rfl)) ?_
                  refine l_nil ?_
                  refine fK8 0 1 2 6 7 9 23 24 (gS rfl (gS rfl (gS rfl (gS rfl (gS rfl (gS rfl (gS rfl (gS rfl (gS rfl g0))))))))) (gS rfl (gS rfl (gS rfl (gS rfl (gS rfl (gS rfl (gS rfl (gS rfl g0)))))))) (gS rfl (gS rfl (gS rfl (gS rfl (gS rfl (gS rfl (gS rfl g0))))))) (gS rfl (gS rfl (gS rfl (gS rfl (gS rfl (gS rfl g0)))))) (gS rfl (gS rfl (gS rfl (gS rfl (gS rfl g0))))) (gS rfl (gS rfl (gS rfl (gS rfl g0)))) (gS rfl (gS rfl (gS rfl g0))) g0 (fun g => ?_)
                  exact hK8 (tkN q - ((i + 1))) _ _ (by omega) ⟨g, _, _, (i + 1), rfl, rfl, by omega, by rw [List.length_append, hul]; rfl, hus.snoc hul n15 q15, k4, V8⟩))
            · skip
              
              have hil : i = tkN q := by have := of_decide_eq_false cB1; omega
              rw [show tkN q - i = 0 by omega, List.replicate_zero, List.append_nil] at k4
              obtain ⟨Hz17, Gz17, hlz17, hez17, hnz17⟩ := G.hold' k4 f4
              replace G := Gz17
              replace hF := G.fz
              replace hus := hus.mono hlz17
              replace hL0 := hL0.trans hlz17
              replace nbS := fun hh => (hnz17 _ hh).elim nbS (by omega)
              replace nbF := fun hh => (hnz17 _ hh).elim nbF (by omega)
              replace nbM := fun hh => (hnz17 _ hh).elim nbM (by omega)
              have hX : LV P_nat 1 Hz17 (.slice (some ⟨b4, 0, none⟩) (argL f q).length (argL f q).length) (argL f q) := by rw [argL_len]; exact LV.ofUV hez17 hus (by omega) (by omega)
              refine c_exit ?_
              refine hQ7 _ _ _ (in_exit ?_)
              refine hK5 _ _ ?_
              refine fg6 0 1 2 6 7 9 (gS rfl (gS rfl (gS rfl (gS rfl (gS rfl (gS rfl (gS rfl (gS rfl (gS rfl g0))))))))) (gS rfl (gS rfl (gS rfl (gS rfl (gS rfl (gS rfl (gS rfl (gS rfl g0)))))))) (gS rfl (gS rfl (gS rfl (gS rfl (gS rfl (gS rfl (gS rfl g0))))))) (gS rfl (gS rfl (gS rfl (gS rfl (gS rfl (gS rfl g0)))))) (gS rfl (gS rfl (gS rfl (gS rfl (gS rfl g0))))) (gS rfl (gS rfl (gS rfl (gS rfl g0)))) (fun g => ?_)
              refine c_seq (fun K18 hK18 => ?_)
              exact (by
                refine c_draw Up 11 [(0, true), (1, true), (2, true), (3, true), (4, true), (5, false), (6, true), (7, true), (8, false), (9, false), (10, true)] (by kernel_rfl) (fun w19 hu => ⟨Up.refl _, ?_⟩)
                replace G := G.tr (Go.ofUp hF hu)
                replace hF := hF.up hu
                replace kS := kS.up hu
                replace kF := kF.up hu
                replace kM := kM.up hu
                replace kL := kL.up hu
                replace U := U.tr hu
                have SU := Up.refl w19
                refine p_step (by exact rfl) (y_moveV (et (gS rfl (gS rfl (gS rfl (gS rfl g0)))) rfl)) ?_
                refine p_step (by exact rfl) (y_nil (et g0 rfl)) ?_
                refine p_step (by exact rfl) (y_fld fld_146_3 (et g0 rfl)) ?_
                refine p_step (by exact rfl) (y_load1 one_95 (et g0 rfl) (atS (kF.cell (rF 3 _ rfl)))) ?_
                refine p_step (by exact rfl) (y_moveV (et (gS rfl (gS rfl (gS rfl (gS rfl (gS rfl (gS rfl (gS rfl g0))))))) rfl)) ?_
                refine p_eff (by exact rfl) (e_callV cal_151 (aC (et g0 rfl) aN) (imm_spec _ _ hq)) (fun v20 w20 h20 => ?_)
                obtain ⟨rfl, u20⟩ := h20
                replace G := G.tr (Go.ofUp hF u20)
                replace hF := hF.up u20
                replace kS := kS.up u20
                replace kF := kF.up u20
                replace kM := kM.up u20
                replace kL := kL.up u20
                replace U := U.tr u20
                refine ⟨.inr (SU.tr u20), ?_⟩
                replace SU := SU.tr u20
                refine p_step (by exact rfl) (y_conv Hvaa.underlying5 Hvaa.underlying26 (et g0 rfl) (wrapU_id uk64 ?_)) ?_
                (have := imm_le q; omega)
                refine p_step (by exact rfl) (y_add rfl (et g0 rfl) (wrapU_addN (a := 1) uk64 ?_)) ?_
                (have := imm_le q; omega)
                refine p_eff (by exact rfl) (e_callV cal_32 (aC (et g0 rfl) aN) (yp_num hF (show 1 + immN q < 18446744073709551616 by have := imm_le q; omega))) (fun v21 w21 h21 => ?_)
                obtain ⟨H21, g21, n21⟩ := h21
                have hlew21 := g21.le
                replace nbS := g21.nb nbS kS.lt
                replace nbF := g21.nb nbF kF.lt
                replace nbM := g21.nb nbM (Nat.lt_of_lt_of_le lM U.size)
                replace hX := hX.mono hlew21
                replace hL0 := hL0.trans hlew21
                replace kS := kS.up g21.up
                replace kF := kF.up g21.up
                replace kM := kM.up g21.up
                replace kL := kL.up g21.up
                replace U := U.tr g21.up
                replace G := G.tr g21
                replace hF := g21.fz
                have q21 := bd_64 (show 1 + immN q < 18446744073709551616 by have := imm_le q; omega)
                refine ⟨.inr (SU.tr g21.up), ?_⟩
                replace SU := SU.tr g21.up
                exact (by
                  refine p_eff (by exact rfl) (e_callV cal_34 (aC (et (gS rfl (gS rfl (gS rfl (gS rfl (gS rfl g0))))) rfl) (aC (et g0 rfl) aN)) (nat_add hF (hPc.mono hL0) n21 (bd_sm (bd_lt2 (b := 256 ^ 4) fo.pc (by decide)) (by decide)) (bd_sm q21 (by decide)))) (fun v22 w22 h22 => ?_)
                  obtain ⟨H22, g22, n22⟩ := h22
                  have hlew22 := g22.le
                  replace nbS := g22.nb nbS kS.lt
                  replace nbF := g22.nb nbF kF.lt
                  replace nbM := g22.nb nbM (Nat.lt_of_lt_of_le lM U.size)
                  replace hX := hX.mono hlew22
                  replace n21 := n21.mono hlew22
                  replace hL0 := hL0.trans hlew22
                  replace kS := kS.up g22.up
                  replace kF := kF.up g22.up
                  replace kM := kM.up g22.up
                  replace kL := kL.up g22.up
                  replace U := U.tr g22.up
                  replace G := G.tr g22
                  replace hF := g22.fz
                  have q22 := bd_add (c := 9) (bd_lt2 (b := 256 ^ 4) fo.pc (by decide)) q21 (by decide)
                  refine ⟨.inr (SU.tr g22.up), ?_⟩
                  replace SU := SU.tr g22.up
                  refine p_step (by exact rfl) (y_assignV (et g0 rfl)) ?_
                  refine p_nil ?_
                  refine hK18 _ _ ?_
                  refine fg7 0 1 2 6 7 9 11 (gS rfl (gS rfl (gS rfl (gS rfl (gS rfl (gS rfl (gS rfl (gS rfl (gS rfl (gS rfl (gS rfl (gS rfl (gS rfl (gS rfl (gS rfl (gS rfl g0)))))))))))))))) (gS rfl (gS rfl (gS rfl (gS rfl (gS rfl (gS rfl (gS rfl (gS rfl (gS rfl (gS rfl (gS rfl (gS rfl (gS rfl (gS rfl (gS rfl g0))))))))))))))) (gS rfl (gS rfl (gS rfl (gS rfl (gS rfl (gS rfl (gS rfl (gS rfl (gS rfl (gS rfl (gS rfl (gS rfl (gS rfl (gS rfl g0)))))))))))))) (gS rfl (gS rfl (gS rfl (gS rfl (gS rfl (gS rfl (gS rfl (gS rfl (gS rfl (gS rfl (gS rfl (gS rfl (gS rfl g0))))))))))))) (gS rfl (gS rfl (gS rfl (gS rfl (gS rfl (gS rfl (gS rfl (gS rfl (gS rfl (gS rfl (gS rfl (gS rfl g0)))))))))))) (gS rfl (gS rfl (gS rfl (gS rfl (gS rfl (gS rfl (gS rfl (gS rfl (gS rfl (gS rfl (gS rfl g0))))))))))) g0 (fun g => ?_)
                  refine c_seq (fun K23 hK23 => ?_)
                  exact (by
                    refine c_draw Up 20 [(0, true), (1, true), (2, true), (3, true), (4, true), (5, true), (6, true), (7, true), (8, true), (9, true), (10, true), (11, true), (12, true), (13, true), (14, true), (15, true), (16, true), (17, true), (18, true), (19, true)] (by kernel_rfl) (fun w24 hu => ⟨Up.refl _, ?_⟩)
                    replace G := G.tr (Go.ofUp hF hu)
                    replace hF := hF.up hu
                    replace kS := kS.up hu
                    replace kF := kF.up hu
                    replace kM := kM.up hu
                    replace kL := kL.up hu
                    replace U := U.tr hu
                    have SU := Up.refl w24
                    refine p_step (by exact rfl) (y_moveV (et (gS rfl (gS rfl (gS rfl (gS rfl (gS rfl g0))))) rfl)) ?_
                    refine p_step (by exact rfl) (y_nil (et g0 rfl)) ?_
                    refine p_step (by exact rfl) (y_fld fld_146_8 (et g0 rfl)) ?_
                    refine p_step (by exact rfl) (y_load1 one_144 (et g0 rfl) (atS (kF.cell (rF 8 _ rfl)))) ?_
                    refine p_step (by exact rfl) (y_moveV (et (gS rfl (gS rfl (gS rfl (gS rfl (gS rfl (gS rfl (gS rfl (gS rfl (gS rfl g0))))))))) rfl)) ?_
                    refine p_step (by exact rfl) (y_nil (et g0 rfl)) ?_
                    refine p_step (by exact rfl) (y_fld fld_146_8 (et g0 rfl)) ?_
                    refine p_step (by exact rfl) (y_load1 one_144 (et g0 rfl) (atS (kF.cell (rF 8 _ rfl)))) ?_
                    refine p_step (by exact rfl) (y_len Hvaa.underlying144 (et g0 rfl)) ?_
                    refine p_step (by exact rfl) (y_moveV (et (gS rfl (gS rfl (gS rfl (gS rfl (gS rfl (gS rfl (gS rfl (gS rfl (gS rfl (gS rfl (gS rfl (gS rfl g0)))))))))))) rfl)) ?_
                    refine p_step (by exact rfl) (y_sub (et (gS rfl g0) rfl) (et g0 rfl) (subIN ?_ ?_)) ?_
                    omega
                    omega
                    refine p_step (by exact rfl) (y_moveV (et (gS rfl (gS rfl (gS rfl (gS rfl (gS rfl (gS rfl (gS rfl (gS rfl (gS rfl (gS rfl (gS rfl (gS rfl (gS rfl (gS rfl (gS rfl (gS rfl g0)))))))))))))))) rfl)) ?_
                    refine p_step (by exact rfl) (y_nil (et g0 rfl)) ?_
                    refine p_step (by exact rfl) (y_fld fld_146_8 (et g0 rfl)) ?_
                    refine p_step (by exact rfl) (y_load1 one_144 (et g0 rfl) (atS (kF.cell (rF 8 _ rfl)))) ?_
                    refine p_step (by exact rfl) (y_len Hvaa.underlying144 (et g0 rfl)) ?_
                    refine p_step (by exact rfl) (y_moveV (et (gS rfl (gS rfl (gS rfl (gS rfl (gS rfl (gS rfl (gS rfl (gS rfl (gS rfl (gS rfl (gS rfl (gS rfl (gS rfl (gS rfl (gS rfl (gS rfl (gS rfl (gS rfl (gS rfl g0))))))))))))))))))) rfl)) ?_
                    refine p_step (by exact rfl) (y_sub (et (gS rfl g0) rfl) (et g0 rfl) (subIN ?_ ?_)) ?_
                    omega
                    omega
                    exact (by
                      refine p_step (by exact rfl) ((y_slS011n Hvaa.underlying144 sz_95 (et (gS rfl (gS rfl (gS rfl (gS rfl (gS rfl (gS rfl (gS rfl (gS rfl (gS rfl (gS rfl (gS rfl (gS rfl (gS rfl (gS rfl g0)))))))))))))) rfl) (et (gS rfl (gS rfl (gS rfl (gS rfl (gS rfl (gS rfl (gS rfl g0))))))) rfl) (et g0 rfl) ?_ ?_).to (show Value.slice ka (f.stack.length - tkN q) (f.stack.length - tkN q) = .slice ka (plK f q).length (f.stack.length - tkN q) by rw [hpk])) ?_
                      omega
                      omega
                      refine p_step (by exact rfl) (y_assignV (et g0 rfl)) ?_
                      refine p_nil ?_
                      refine hK23 _ _ ?_
                      refine fg8 0 1 2 6 7 9 11 12 (gS rfl (gS rfl (gS rfl (gS rfl (gS rfl (gS rfl (gS rfl (gS rfl (gS rfl (gS rfl (gS rfl (gS rfl (gS rfl (gS rfl (gS rfl (gS rfl (gS rfl (gS rfl (gS rfl (gS rfl (gS rfl (gS rfl (gS rfl (gS rfl (gS rfl (gS rfl g0)))))))))))))))))))))))))) (gS rfl (gS rfl (gS rfl (gS rfl (gS rfl (gS rfl (gS rfl (gS rfl (gS rfl (gS rfl (gS rfl (gS rfl (gS rfl (gS rfl (gS rfl (gS rfl (gS rfl (gS rfl (gS rfl (gS rfl (gS rfl (gS rfl (gS rfl (gS rfl (gS rfl g0))))))))))))))))))))))))) (gS rfl (gS rfl (gS rfl (gS rfl (gS rfl (gS rfl (gS rfl (gS rfl (gS rfl (gS rfl (gS rfl (gS rfl (gS rfl (gS rfl (gS rfl (gS rfl (gS rfl (gS rfl (gS rfl (gS rfl (gS rfl (gS rfl (gS rfl (gS rfl g0)))))))))))))))))))))))) (gS rfl (gS rfl (gS rfl (gS rfl (gS rfl (gS rfl (gS rfl (gS rfl (gS rfl (gS rfl (gS rfl (gS rfl (gS rfl (gS rfl (gS rfl (gS rfl (gS rfl (gS rfl (gS rfl (gS rfl (gS rfl (gS rfl (gS rfl g0))))))))))))))))))))))) (gS rfl (gS rfl (gS rfl (gS rfl (gS rfl (gS rfl (gS rfl (gS rfl (gS rfl (gS rfl (gS rfl (gS rfl (gS rfl (gS rfl (gS rfl (gS rfl (gS rfl (gS rfl (gS rfl (gS rfl (gS rfl (gS rfl g0)))))))))))))))))))))) (gS rfl (gS rfl (gS rfl (gS rfl (gS rfl (gS rfl (gS rfl (gS rfl (gS rfl (gS rfl (gS rfl (gS rfl (gS rfl (gS rfl (gS rfl (gS rfl (gS rfl (gS rfl (gS rfl (gS rfl (gS rfl g0))))))))))))))))))))) (gS rfl (gS rfl (gS rfl (gS rfl (gS rfl (gS rfl (gS rfl (gS rfl (gS rfl (gS rfl (gS rfl (gS rfl (gS rfl (gS rfl (gS rfl (gS rfl (gS rfl (gS rfl (gS rfl (gS rfl g0)))))))))))))))))))) g0 (fun g => ?_)
                      refine c_seq (fun K25 hK25 => ?_)
                      refine c_block (fun Q26 hQ26 => ?_)
                      refine c_seq (fun K27 hK27 => ?_)
                      refine c_seq (fun K28 hK28 => ?_)
                      exact (by
                        refine c_region ?_
                        refine l_step (y_moveV (et (gS rfl (gS rfl (gS rfl (gS rfl (gS rfl g0))))) rfl)) ?_
                        refine l_step (y_eql (et g0 rfl) rfl) ?_
                        refine l_step (y_assignV (et g0 rfl)) ?_
                        refine l_nil ?_
                        refine hK28 _ _ ?_
                        refine fg9 0 1 2 6 7 9 11 12 71 (gS rfl (gS rfl (gS rfl (gS rfl (gS rfl (gS rfl (gS rfl (gS rfl (gS rfl (gS rfl g0)))))))))) (gS rfl (gS rfl (gS rfl (gS rfl (gS rfl (gS rfl (gS rfl (gS rfl (gS rfl g0))))))))) (gS rfl (gS rfl (gS rfl (gS rfl (gS rfl (gS rfl (gS rfl (gS rfl g0)))))))) (gS rfl (gS rfl (gS rfl (gS rfl (gS rfl (gS rfl (gS rfl g0))))))) (gS rfl (gS rfl (gS rfl (gS rfl (gS rfl (gS rfl g0)))))) (gS rfl (gS rfl (gS rfl (gS rfl (gS rfl g0))))) (gS rfl (gS rfl (gS rfl (gS rfl g0)))) (gS rfl (gS rfl (gS rfl g0))) g0 (fun g => ?_)
                        refine c_condV (i := 71) g0 rfl (fun cB2 => ?_) (fun cB2 => ?_)
                        · skip
                          
                          have hq86 : q = 86 := by have := of_decide_eq_true cB2; omega
                          have hC : plC f q = 0 := by rw [plC, if_pos (.inl hq86)]
                          refine c_skip ?_
                          refine hK27 _ _ ?_
                          refine fg9 0 1 2 6 7 9 11 12 71 (gS rfl (gS rfl (gS rfl (gS rfl (gS rfl (gS rfl (gS rfl (gS rfl (gS rfl g0))))))))) (gS rfl (gS rfl (gS rfl (gS rfl (gS rfl (gS rfl (gS rfl (gS rfl g0)))))))) (gS rfl (gS rfl (gS rfl (gS rfl (gS rfl (gS rfl (gS rfl g0))))))) (gS rfl (gS rfl (gS rfl (gS rfl (gS rfl (gS rfl g0)))))) (gS rfl (gS rfl (gS rfl (gS rfl (gS rfl g0))))) (gS rfl (gS rfl (gS rfl (gS rfl g0)))) (gS rfl (gS rfl (gS rfl g0))) (gS rfl (gS rfl g0)) g0 (fun g => ?_)
                          refine c_true (et g0 rfl) rfl ?_
                          exact (by
                            refine c_region ?_
                            refine l_step (y_moveV (et (gS rfl (gS rfl (gS rfl g0))) rfl)) ?_
                            have htp : 0 < tkN q := (show q = 86 ∨ q = 87 by omega).elim (fun h9 => by have := tf.out.1 h9; omega) (fun h9 => by have := tf.out.2.1 h9; omega)
                            obtain ⟨ba, oa, va, ha, hcel, hnv, hvb⟩ := hX.stk hF (i := 0) (by rw [argL_len]; omega)
                            rw [argL_get] at hnv hvb
                            obtain ⟨xq1, xq2, xq3, rfl⟩ := hnv.sl
                            refine l_step (y_idxSa (i := 0) ha Hvaa.underlying144 sz_95 (et g0 rfl) rfl ?_) ?_
                            (omega)
                            refine l_step (y_load1 one_95 (et g0 rfl) (at1 hcel)) ?_
                            refine l_eff (e_callV cal_123 (aC (et g0 rfl) aN) (nat_normN hF hnv (bd_sm (bd_W hvb) (by decide)))) (fun v31 w31 h31 => ?_)
                            obtain ⟨H31, g31, n31⟩ := h31
                            have hlew31 := g31.le
                            replace nbS := g31.nb nbS kS.lt
                            replace nbF := g31.nb nbF kF.lt
                            replace nbM := g31.nb nbM (Nat.lt_of_lt_of_le lM U.size)
                            replace hX := hX.mono hlew31
                            replace n21 := n21.mono hlew31
                            replace n22 := n22.mono hlew31
                            replace hL0 := hL0.trans hlew31
                            replace kS := kS.up g31.up
                            replace kF := kF.up g31.up
                            replace kM := kM.up g31.up
                            replace kL := kL.up g31.up
                            replace U := U.tr g31.up
                            replace G := G.tr g31
                            replace hF := g31.fz
                            have q31 := (bd_W hvb)
                            refine l_step (y_assignV (et g0 rfl)) ?_
                            refine l_nil ?_
                            refine hQ26 _ _ _ (in_normal ?_)
                            refine hK25 _ _ ?_
                            refine fg3 1 11 12 (gS rfl (gS rfl (gS rfl (gS rfl (gS rfl (gS rfl (gS rfl (gS rfl (gS rfl (gS rfl (gS rfl (gS rfl g0)))))))))))) g0 (gS rfl (gS rfl (gS rfl (gS rfl (gS rfl (gS rfl g0)))))) (fun g => ?_)
                            refine c_seq (fun K32 hK32 => ?_)
                            exact (by
                              refine c_region ?_
                              refine l_step (y_moveV (et (gS rfl (gS rfl g0)) rfl)) ?_
                              refine l_step (y_moveV (et (gS rfl g0) rfl)) ?_
                              refine l_step (y_nil (et (gS rfl g0) rfl)) ?_
                              refine l_step (y_fld fld_146_8 (et g0 rfl)) ?_
                              have rl33 := RowIn.le rF (Nat.succ_pos _)
                              simp only [List.length_cons, List.length_nil, Nat.zero_add, Nat.reduceAdd] at rl33
                              refine l_effN (e_store sz_144 (et g0 rfl) (cellsV (et (gS rfl (gS rfl g0)) rfl) rfl) rfl (by first | exact one_bL _ | exact one_uL _ | (intro v hv; simp at hv; subst hv; rfl)) kF (by first | exact Nat.le_of_ble_eq_true rfl | (simp; done) | (simp; omega) | omega)) (fun v33 w33 h33 => ?_)
                              obtain ⟨rfl, x33⟩ := h33
                              replace kS := kS.ch x33.ch (by first | omega | exact hOo.ne (by omega))
                              replace kM := kM.ch x33.ch (by first | omega | exact hOo.ne (by omega))
                              replace kL := kL.ch x33.ch (by intro q hq hm; first | (have := dL q hq; first | omega | (have := hOo.lim q hm.symm; omega) | (simp only at hm; omega)) | (rcases ho9 q hq with h9 | h9; have := dL _ h9; omega; omega))
                              replace kF := x33.blk
                              replace G := G.wr x33 (.inl (by first | rfl | (simp; done))) nbF
                              replace hF := G.fz
                              replace U := U.st x33 (.inl (by first | rfl | (simp; done)))
                              replace oF := kF.oput oF (by omega) (by omega)
                              replace rF : RowIn _ _ [.int .u8 (f.kind : Nat), .int .u8 (f.ntv : Nat), .bool f.static, vpc, vgas, vval, voo, vol, _, .slice am f.mem.length f.mem.length, .slice ca f.code.length cc, .slice ia f.input.length ic] := kF.rput rF 8 rfl
                              replace rSe := kF.rputo rSe (by first | (left; omega) | (right; simp only [List.length_cons, List.length_nil, length_bL, length_be, hSv.len]; omega))
                              replace rCa := kF.rputo rCa (by first | (left; omega) | (right; simp only [List.length_cons, List.length_nil, length_bL, length_be, hSv.len]; omega))
                              replace rSv := kF.rputo rSv (by first | (left; omega) | (right; simp only [List.length_cons, List.length_nil, length_bL, length_be, hSv.len]; omega))
                              refine l_nil ?_
                              refine hK32 _ _ ?_
                              refine fg2 1 11 (gS rfl (gS rfl (gS rfl (gS rfl (gS rfl (gS rfl g0)))))) (gS rfl (gS rfl (gS rfl (gS rfl (gS rfl g0))))) (fun g => ?_)
                              refine c_region ?_
                              refine l_step (y_moveV (et (gS rfl g0) rfl)) ?_
                              refine l_step (y_moveV (et (gS rfl g0) rfl)) ?_
                              refine l_step (y_nil (et (gS rfl g0) rfl)) ?_
                              refine l_step (y_fld fld_146_3 (et g0 rfl)) ?_
                              obtain ⟨sa34, sn34, sc34, rfl⟩ := n31.sl
                              have rl34 := RowIn.le rF (Nat.succ_pos _)
                              simp only [List.length_cons, List.length_nil, Nat.zero_add, Nat.reduceAdd] at rl34
                              refine l_effN (e_store sz_95 (et g0 rfl) (cellsV (et (gS rfl (gS rfl g0)) rfl) rfl) rfl (by first | exact one_bL _ | exact one_uL _ | (intro v hv; simp at hv; subst hv; rfl)) kF (by first | exact Nat.le_of_ble_eq_true rfl | (simp; done) | (simp; omega) | omega)) (fun v34 w34 h34 => ?_)
                              obtain ⟨rfl, x34⟩ := h34
                              replace kS := kS.ch x34.ch (by first | omega | exact hOo.ne (by omega))
                              replace kM := kM.ch x34.ch (by first | omega | exact hOo.ne (by omega))
                              replace kL := kL.ch x34.ch (by intro q hq hm; first | (have := dL q hq; first | omega | (have := hOo.lim q hm.symm; omega) | (simp only at hm; omega)) | (rcases ho9 q hq with h9 | h9; have := dL _ h9; omega; omega))
                              replace kF := x34.blk
                              replace G := G.wr x34 (.inl (by first | rfl | (simp; done))) nbF
                              replace hF := G.fz
                              replace U := U.st x34 (.inl (by first | rfl | (simp; done)))
                              replace oF := kF.oput oF (by omega) (by omega)
                              replace rF : RowIn _ _ [.int .u8 (f.kind : Nat), .int .u8 (f.ntv : Nat), .bool f.static, _, vgas, vval, voo, vol, _, .slice am f.mem.length f.mem.length, .slice ca f.code.length cc, .slice ia f.input.length ic] := kF.rput rF 3 rfl
                              replace rSe := kF.rputo rSe (by first | (left; omega) | (right; simp only [List.length_cons, List.length_nil, length_bL, length_be, hSv.len]; omega))
                              replace rCa := kF.rputo rCa (by first | (left; omega) | (right; simp only [List.length_cons, List.length_nil, length_bL, length_be, hSv.len]; omega))
                              replace rSv := kF.rputo rSv (by first | (left; omega) | (right; simp only [List.length_cons, List.length_nil, length_bL, length_be, hSv.len]; omega))
                              refine l_nil ?_
                              refine end0 rfl ?_
                              have eF : plF s f q = { f with stack := plK f q, pc := argN f.stack 0, mem := f.mem } := by unfold plF plStk plPC plM; rw [hC]; rfl
                              have eS : plS s f q = s := by unfold plS; rw [hC]; rfl
                              rw [eF, eS]
                              exact ⟨rfl, _, _, _, _, _, G, kS, hs.mono hL0, kF, ⟨⟨fo.kind, fo.ntv, ph.hjp hC, fo.gas, fo.value, fo.outOff, fo.outLen, fo.self, fo.caller, by show List.length (plK f q) < _; have := fo1; simp only [List.length_append, plK, List.length_take, swp_len, List.length_cons, List.length_nil]; omega, fo.code, fo.input, fo.mem⟩, _, _, _, _, _, _, _, _, _, _, _, _, rF, rSe, rCa, rSv, hSv.mono hL0, n31, (hGa.mono hL0), (hVa.mono hL0), (hOf.mono hL0), (hOl.mono hL0), (hLk.mono hL0), (hCo.mono hL0), (hIn.mono hL0)⟩, oF, kM, kL.mono hL0, hvl, fun b e => .inl e, fun b e => G.nb (nbL b e) (dL b e).1⟩))
                        · skip
                          
                          have hq86 : q ≠ 86 := by have := of_decide_eq_false cB2; omega
                          refine c_region ?_
                          refine l_step (y_moveV (et (gS rfl (gS rfl (gS rfl (gS rfl (gS rfl (gS rfl (gS rfl g0))))))) rfl)) ?_
                          refine l_step (y_eql (et g0 rfl) rfl) ?_
                          refine l_step (y_moveV (et g0 rfl)) ?_
                          refine gsplitL (i := 76) g0 (fun q35 => ?_) (fun q35 => ?_)
                          · skip
                            have hq87 : q = 87 := by have := of_decide_eq_true q35; omega
                            refine l_gstep (j := 2) (t := 76) (by exact rfl) (by exact rfl) (et g0 rfl) (by decide) (y_moveV (et (gS rfl (gS rfl (gS rfl (gS rfl (gS rfl (gS rfl (gS rfl (gS rfl g0)))))))) rfl)) ?_
                            obtain ⟨ba, oa, va, ha, hcel, hnv, hvb⟩ := hX.stk hF (i := 1) (by rw [argL_len]; have := tf.out.2.1 hq87; omega)
                            rw [argL_get] at hnv hvb
                            obtain ⟨xq1, xq2, xq3, rfl⟩ := hnv.sl
                            refine l_gstep (j := 2) (t := 76) (by exact rfl) (by exact rfl) (et (gS rfl g0) rfl) (by decide) (y_idxSa (i := 1) ha Hvaa.underlying144 sz_95 (et g0 rfl) rfl ?_) ?_
                            (have := tf.out.2.1 hq87; omega)
                            refine l_gstep (j := 2) (t := 76) (by exact rfl) (by exact rfl) (et (gS rfl (gS rfl g0)) rfl) (by decide) (y_load1 one_95 (et g0 rfl) (at1 hcel)) ?_
                            refine l_geff (j := 2) (t := 76) (by exact rfl) (by exact rfl) (et (gS rfl (gS rfl (gS rfl g0))) rfl) rfl (e_callV cal_79 (aC (et g0 rfl) aN) (yp_isZero hF hnv (bd_sm (bd_W hvb) (by decide)))) (fun v36 w36 h36 => ?_)
                            obtain ⟨rfl, u36⟩ := h36
                            replace G := G.tr (Go.ofUp hF u36)
                            replace hF := hF.up u36
                            replace kS := kS.up u36
                            replace kF := kF.up u36
                            replace kM := kM.up u36
                            replace kL := kL.up u36
                            replace U := U.tr u36
                            refine l_gstep (j := 2) (t := 76) (by exact rfl) (by exact rfl) (et (gS rfl (gS rfl (gS rfl (gS rfl g0)))) rfl) (by decide) (y_not (et g0 rfl)) ?_
                            refine l_step (y_pickT (et (gS rfl (gS rfl (gS rfl (gS rfl (gS rfl g0))))) rfl) (et g0 rfl)) ?_
                            refine l_step (y_assignV (et g0 rfl)) ?_
                            refine l_nil ?_
                            refine hK27 _ _ ?_
                            refine fg9 0 1 2 6 7 9 11 12 71 (gS rfl (gS rfl (gS rfl (gS rfl (gS rfl (gS rfl (gS rfl (gS rfl (gS rfl (gS rfl (gS rfl (gS rfl (gS rfl (gS rfl (gS rfl (gS rfl (gS rfl (gS rfl (gS rfl (gS rfl g0)))))))))))))))))))) (gS rfl (gS rfl (gS rfl (gS rfl (gS rfl (gS rfl (gS rfl (gS rfl (gS rfl (gS rfl (gS rfl (gS rfl (gS rfl (gS rfl (gS rfl (gS rfl (gS rfl (gS rfl (gS rfl g0))))))))))))))))))) (gS rfl (gS rfl (gS rfl (gS rfl (gS rfl (gS rfl (gS rfl (gS rfl (gS rfl (gS rfl (gS rfl (gS rfl (gS rfl (gS rfl (gS rfl (gS rfl (gS rfl (gS rfl g0)))))))))))))))))) (gS rfl (gS rfl (gS rfl (gS rfl (gS rfl (gS rfl (gS rfl (gS rfl (gS rfl (gS rfl (gS rfl (gS rfl (gS rfl (gS rfl (gS rfl (gS rfl (gS rfl g0))))))))))))))))) (gS rfl (gS rfl (gS rfl (gS rfl (gS rfl (gS rfl (gS rfl (gS rfl (gS rfl (gS rfl (gS rfl (gS rfl (gS rfl (gS rfl (gS rfl (gS rfl g0)))))))))))))))) (gS rfl (gS rfl (gS rfl (gS rfl (gS rfl (gS rfl (gS rfl (gS rfl (gS rfl (gS rfl (gS rfl (gS rfl (gS rfl (gS rfl (gS rfl g0))))))))))))))) (gS rfl (gS rfl (gS rfl (gS rfl (gS rfl (gS rfl (gS rfl (gS rfl (gS rfl (gS rfl (gS rfl (gS rfl (gS rfl (gS rfl g0)))))))))))))) (gS rfl (gS rfl (gS rfl (gS rfl (gS rfl (gS rfl (gS rfl (gS rfl (gS rfl (gS rfl (gS rfl (gS rfl (gS rfl g0))))))))))))) g0 (fun g => ?_)
                            refine c_condV (i := 71) g0 rfl (fun cB3 => ?_) (fun cB3 => ?_)
                            · skip
                              
                              have hq0 : argN f.stack 1 ≠ 0 := by simpa using cB3
                              have hC : plC f q = 0 := by rw [plC, if_pos (.inr ⟨hq87, hq0⟩)]
                              exact (by
                                refine c_region ?_
                                refine l_step (y_moveV (et (gS rfl (gS rfl (gS rfl (gS rfl g0)))) rfl)) ?_
                                have htp : 0 < tkN q := (show q = 86 ∨ q = 87 by omega).elim (fun h9 => by have := tf.out.1 h9; omega) (fun h9 => by have := tf.out.2.1 h9; omega)
                                obtain ⟨ba, oa, va, ha, hcel, hnv, hvb⟩ := hX.stk hF (i := 0) (by rw [argL_len]; omega)
                                rw [argL_get] at hnv hvb
                                obtain ⟨xq1, xq2, xq3, rfl⟩ := hnv.sl
                                refine l_step (y_idxSa (i := 0) ha Hvaa.underlying144 sz_95 (et g0 rfl) rfl ?_) ?_
                                (omega)
                                refine l_step (y_load1 one_95 (et g0 rfl) (at1 hcel)) ?_
                                refine l_eff (e_callV cal_123 (aC (et g0 rfl) aN) (nat_normN hF hnv (bd_sm (bd_W hvb) (by decide)))) (fun v38 w38 h38 => ?_)
                                obtain ⟨H38, g38, n38⟩ := h38
                                have hlew38 := g38.le
                                replace nbS := g38.nb nbS kS.lt
                                replace nbF := g38.nb nbF kF.lt
                                replace nbM := g38.nb nbM (Nat.lt_of_lt_of_le lM U.size)
                                replace hX := hX.mono hlew38
                                replace n21 := n21.mono hlew38
                                replace n22 := n22.mono hlew38
                                replace hL0 := hL0.trans hlew38
                                replace kS := kS.up g38.up
                                replace kF := kF.up g38.up
                                replace kM := kM.up g38.up
                                replace kL := kL.up g38.up
                                replace U := U.tr g38.up
                                replace G := G.tr g38
                                replace hF := g38.fz
                                have q38 := (bd_W hvb)
                                refine l_step (y_assignV (et g0 rfl)) ?_
                                refine l_nil ?_
                                refine hQ26 _ _ _ (in_normal ?_)
                                refine hK25 _ _ ?_
                                refine fg3 1 11 12 (gS rfl (gS rfl (gS rfl (gS rfl (gS rfl (gS rfl (gS rfl (gS rfl (gS rfl (gS rfl (gS rfl (gS rfl (gS rfl g0))))))))))))) g0 (gS rfl (gS rfl (gS rfl (gS rfl (gS rfl (gS rfl (gS rfl g0))))))) (fun g => ?_)
                                refine c_seq (fun K39 hK39 => ?_)
                                exact (by
                                  refine c_region ?_
                                  refine l_step (y_moveV (et (gS rfl (gS rfl g0)) rfl)) ?_
                                  refine l_step (y_moveV (et (gS rfl g0) rfl)) ?_
                                  refine l_step (y_nil (et (gS rfl g0) rfl)) ?_
                                  refine l_step (y_fld fld_146_8 (et g0 rfl)) ?_
                                  have rl40 := RowIn.le rF (Nat.succ_pos _)
                                  simp only [List.length_cons, List.length_nil, Nat.zero_add, Nat.reduceAdd] at rl40
                                  refine l_effN (e_store sz_144 (et g0 rfl) (cellsV (et (gS rfl (gS rfl g0)) rfl) rfl) rfl (by first | exact one_bL _ | exact one_uL _ | (intro v hv; simp at hv; subst hv; rfl)) kF (by first | exact Nat.le_of_ble_eq_true rfl | (simp; done) | (simp; omega) | omega)) (fun v40 w40 h40 => ?_)
                                  obtain ⟨rfl, x40⟩ := h40
                                  replace kS := kS.ch x40.ch (by first | omega | exact hOo.ne (by omega))
                                  replace kM := kM.ch x40.ch (by first | omega | exact hOo.ne (by omega))
                                  replace kL := kL.ch x40.ch (by intro q hq hm; first | (have := dL q hq; first | omega | (have := hOo.lim q hm.symm; omega) | (simp only at hm; omega)) | (rcases ho9 q hq with h9 | h9; have := dL _ h9; omega; omega))
                                  replace kF := x40.blk
                                  replace G := G.wr x40 (.inl (by first | rfl | (simp; done))) nbF
                                  replace hF := G.fz
                                  replace U := U.st x40 (.inl (by first | rfl | (simp; done)))
                                  replace oF := kF.oput oF (by omega) (by omega)
                                  replace rF : RowIn _ _ [.int .u8 (f.kind : Nat), .int .u8 (f.ntv : Nat), .bool f.static, vpc, vgas, vval, voo, vol, _, .slice am f.mem.length f.mem.length, .slice ca f.code.length cc, .slice ia f.input.length ic] := kF.rput rF 8 rfl
                                  replace rSe := kF.rputo rSe (by first | (left; omega) | (right; simp only [List.length_cons, List.length_nil, length_bL, length_be, hSv.len]; omega))
                                  replace rCa := kF.rputo rCa (by first | (left; omega) | (right; simp only [List.length_cons, List.length_nil, length_bL, length_be, hSv.len]; omega))
                                  replace rSv := kF.rputo rSv (by first | (left; omega) | (right; simp only [List.length_cons, List.length_nil, length_bL, length_be, hSv.len]; omega))
                                  refine l_nil ?_
                                  refine hK39 _ _ ?_
                                  refine fg2 1 11 (gS rfl (gS rfl (gS rfl (gS rfl (gS rfl (gS rfl g0)))))) (gS rfl (gS rfl (gS rfl (gS rfl (gS rfl g0))))) (fun g => ?_)
                                  refine c_region ?_
                                  refine l_step (y_moveV (et (gS rfl g0) rfl)) ?_
                                  refine l_step (y_moveV (et (gS rfl g0) rfl)) ?_
                                  refine l_step (y_nil (et (gS rfl g0) rfl)) ?_
                                  refine l_step (y_fld fld_146_3 (et g0 rfl)) ?_
                                  obtain ⟨sa41, sn41, sc41, rfl⟩ := n38.sl
                                  have rl41 := RowIn.le rF (Nat.succ_pos _)
                                  simp only [List.length_cons, List.length_nil, Nat.zero_add, Nat.reduceAdd] at rl41
                                  refine l_effN (e_store sz_95 (et g0 rfl) (cellsV (et (gS rfl (gS rfl g0)) rfl) rfl) rfl (by first | exact one_bL _ | exact one_uL _ | (intro v hv; simp at hv; subst hv; rfl)) kF (by first | exact Nat.le_of_ble_eq_true rfl | (simp; done) | (simp; omega) | omega)) (fun v41 w41 h41 => ?_)
                                  obtain ⟨rfl, x41⟩ := h41
                                  replace kS := kS.ch x41.ch (by first | omega | exact hOo.ne (by omega))
                                  replace kM := kM.ch x41.ch (by first | omega | exact hOo.ne (by omega))
                                  replace kL := kL.ch x41.ch (by intro q hq hm; first | (have := dL q hq; first | omega | (have := hOo.lim q hm.symm; omega) | (simp only at hm; omega)) | (rcases ho9 q hq with h9 | h9; have := dL _ h9; omega; omega))
                                  replace kF := x41.blk
                                  replace G := G.wr x41 (.inl (by first | rfl | (simp; done))) nbF
                                  replace hF := G.fz
                                  replace U := U.st x41 (.inl (by first | rfl | (simp; done)))
                                  replace oF := kF.oput oF (by omega) (by omega)
                                  replace rF : RowIn _ _ [.int .u8 (f.kind : Nat), .int .u8 (f.ntv : Nat), .bool f.static, _, vgas, vval, voo, vol, _, .slice am f.mem.length f.mem.length, .slice ca f.code.length cc, .slice ia f.input.length ic] := kF.rput rF 3 rfl
                                  replace rSe := kF.rputo rSe (by first | (left; omega) | (right; simp only [List.length_cons, List.length_nil, length_bL, length_be, hSv.len]; omega))
                                  replace rCa := kF.rputo rCa (by first | (left; omega) | (right; simp only [List.length_cons, List.length_nil, length_bL, length_be, hSv.len]; omega))
                                  replace rSv := kF.rputo rSv (by first | (left; omega) | (right; simp only [List.length_cons, List.length_nil, length_bL, length_be, hSv.len]; omega))
                                  refine l_nil ?_
                                  refine end0 rfl ?_
                                  have eF : plF s f q = { f with stack := plK f q, pc := argN f.stack 0, mem := f.mem } := by unfold plF plStk plPC plM; rw [hC]; rfl
                                  have eS : plS s f q = s := by unfold plS; rw [hC]; rfl
                                  rw [eF, eS]
                                  exact ⟨rfl, _, _, _, _, _, G, kS, hs.mono hL0, kF, ⟨⟨fo.kind, fo.ntv, ph.hjp hC, fo.gas, fo.value, fo.outOff, fo.outLen, fo.self, fo.caller, by show List.length (plK f q) < _; have := fo1; simp only [List.length_append, plK, List.length_take, swp_len, List.length_cons, List.length_nil]; omega, fo.code, fo.input, fo.mem⟩, _, _, _, _, _, _, _, _, _, _, _, _, rF, rSe, rCa, rSv, hSv.mono hL0, n38, (hGa.mono hL0), (hVa.mono hL0), (hOf.mono hL0), (hOl.mono hL0), (hLk.mono hL0), (hCo.mono hL0), (hIn.mono hL0)⟩, oF, kM, kL.mono hL0, hvl, fun b e => .inl e, fun b e => G.nb (nbL b e) (dL b e).1⟩))
                            · skip
                              
                              have hq0 : ¬ (q = 86 ∨ (q = 87 ∧ argN f.stack 1 ≠ 0)) := by
                                have h1 : argN f.stack 1 = 0 := by simpa using cB3
                                omega
                              refine c_seq (fun K42 hK42 => ?_)
                              exact (by
                                refine c_region ?_
                                refine l_step (y_moveV (et (gS rfl (gS rfl (gS rfl (gS rfl (gS rfl (gS rfl (gS rfl g0))))))) rfl)) ?_
                                refine l_step (y_geq (et g0 rfl) rfl) ?_
                                refine l_step (y_moveV (et g0 rfl)) ?_
                                refine l_gpure (j := 2) (t := 90) (by exact rfl) (by exact rfl) (et g0 rfl) rfl (fun hc => (y_moveV (et (gS rfl (gS rfl (gS rfl (gS rfl (gS rfl (gS rfl (gS rfl (gS rfl (gS rfl (gS rfl g0)))))))))) rfl))) ?_
                                refine l_gpure (j := 2) (t := 90) (by exact rfl) (by exact rfl) (et (gS rfl g0) rfl) rfl (fun hc => (y_leq (et (cT g0 hc) rfl) rfl)) ?_
                                refine l_step (y_pickA (et (gS rfl (gS rfl g0)) rfl) (et g0 rfl) rfl) ?_
                                refine l_step (y_assignV (et g0 rfl)) ?_
                                refine l_nil ?_
                                refine hK42 _ _ ?_
                                refine fg9 0 1 2 6 7 9 11 12 87 (gS rfl (gS rfl (gS rfl (gS rfl (gS rfl (gS rfl (gS rfl (gS rfl (gS rfl (gS rfl (gS rfl (gS rfl (gS rfl (gS rfl (gS rfl (gS rfl g0)))))))))))))))) (gS rfl (gS rfl (gS rfl (gS rfl (gS rfl (gS rfl (gS rfl (gS rfl (gS rfl (gS rfl (gS rfl (gS rfl (gS rfl (gS rfl (gS rfl g0))))))))))))))) (gS rfl (gS rfl (gS rfl (gS rfl (gS rfl (gS rfl (gS rfl (gS rfl (gS rfl (gS rfl (gS rfl (gS rfl (gS rfl (gS rfl g0)))))))))))))) (gS rfl (gS rfl (gS rfl (gS rfl (gS rfl (gS rfl (gS rfl (gS rfl (gS rfl (gS rfl (gS rfl (gS rfl (gS rfl g0))))))))))))) (gS rfl (gS rfl (gS rfl (gS rfl (gS rfl (gS rfl (gS rfl (gS rfl (gS rfl (gS rfl (gS rfl (gS rfl g0)))))))))))) (gS rfl (gS rfl (gS rfl (gS rfl (gS rfl (gS rfl (gS rfl (gS rfl (gS rfl (gS rfl (gS rfl g0))))))))))) (gS rfl (gS rfl (gS rfl (gS rfl (gS rfl (gS rfl (gS rfl (gS rfl (gS rfl (gS rfl g0)))))))))) (gS rfl (gS rfl (gS rfl (gS rfl (gS rfl (gS rfl (gS rfl (gS rfl (gS rfl g0))))))))) g0 (fun g => ?_)
                                refine c_condV (i := 87) g0 rfl (fun cB4 => ?_) (fun cB4 => ?_)
                                · skip
                                  simp only [Bool.and_eq_true, Bool.and_eq_false_imp, decide_eq_true_eq, decide_eq_false_iff_not] at cB4
                                  omega
                                · skip
                                  simp only [Bool.and_eq_true, Bool.and_eq_false_imp, decide_eq_true_eq, decide_eq_false_iff_not] at cB4
                                  have hd : ¬ (128 ≤ q ∧ q ≤ 143) := by omega
                                  refine c_seq (fun K44 hK44 => ?_)
                                  exact (by
                                    refine c_region ?_
                                    refine l_step (y_moveV (et (gS rfl (gS rfl (gS rfl (gS rfl (gS rfl (gS rfl (gS rfl g0))))))) rfl)) ?_
                                    refine l_step (y_geq (et g0 rfl) rfl) ?_
                                    refine l_step (y_moveV (et g0 rfl)) ?_
                                    refine l_gpure (j := 2) (t := 119) (by exact rfl) (by exact rfl) (et g0 rfl) rfl (fun hc => (y_moveV (et (gS rfl (gS rfl (gS rfl (gS rfl (gS rfl (gS rfl (gS rfl (gS rfl (gS rfl (gS rfl g0)))))))))) rfl))) ?_
                                    refine l_gpure (j := 2) (t := 119) (by exact rfl) (by exact rfl) (et (gS rfl g0) rfl) rfl (fun hc => (y_leq (et (cT g0 hc) rfl) rfl)) ?_
                                    refine l_step (y_pickA (et (gS rfl (gS rfl g0)) rfl) (et g0 rfl) rfl) ?_
                                    refine l_step (y_assignV (et g0 rfl)) ?_
                                    refine l_nil ?_
                                    refine hK44 _ _ ?_
                                    refine fg9 0 1 2 6 7 9 11 12 116 (gS rfl (gS rfl (gS rfl (gS rfl (gS rfl (gS rfl (gS rfl (gS rfl (gS rfl (gS rfl (gS rfl (gS rfl (gS rfl (gS rfl (gS rfl (gS rfl g0)))))))))))))))) (gS rfl (gS rfl (gS rfl (gS rfl (gS rfl (gS rfl (gS rfl (gS rfl (gS rfl (gS rfl (gS rfl (gS rfl (gS rfl (gS rfl (gS rfl g0))))))))))))))) (gS rfl (gS rfl (gS rfl (gS rfl (gS rfl (gS rfl (gS rfl (gS rfl (gS rfl (gS rfl (gS rfl (gS rfl (gS rfl (gS rfl g0)))))))))))))) (gS rfl (gS rfl (gS rfl (gS rfl (gS rfl (gS rfl (gS rfl (gS rfl (gS rfl (gS rfl (gS rfl (gS rfl (gS rfl g0))))))))))))) (gS rfl (gS rfl (gS rfl (gS rfl (gS rfl (gS rfl (gS rfl (gS rfl (gS rfl (gS rfl (gS rfl (gS rfl g0)))))))))))) (gS rfl (gS rfl (gS rfl (gS rfl (gS rfl (gS rfl (gS rfl (gS rfl (gS rfl (gS rfl (gS rfl g0))))))))))) (gS rfl (gS rfl (gS rfl (gS rfl (gS rfl (gS rfl (gS rfl (gS rfl (gS rfl (gS rfl g0)))))))))) (gS rfl (gS rfl (gS rfl (gS rfl (gS rfl (gS rfl (gS rfl (gS rfl (gS rfl g0))))))))) g0 (fun g => ?_)
                                    refine c_condV (i := 116) g0 rfl (fun cB5 => ?_) (fun cB5 => ?_)
                                    · skip
                                      simp only [Bool.and_eq_true, Bool.and_eq_false_imp, decide_eq_true_eq, decide_eq_false_iff_not] at cB5
                                      omega
                                    · skip
                                      simp only [Bool.and_eq_true, Bool.and_eq_false_imp, decide_eq_true_eq, decide_eq_false_iff_not] at cB5
                                      have hw2 : ¬ (144 ≤ q ∧ q ≤ 159) := by omega
                                      refine c_seq (fun K46 hK46 => ?_)
                                      exact (by
                                        refine c_region ?_
                                        refine l_step (y_moveV (et (gS rfl (gS rfl (gS rfl (gS rfl (gS rfl g0))))) rfl)) ?_
                                        refine l_step (y_eql (et g0 rfl) rfl) ?_
                                        refine l_step (y_assignV (et g0 rfl)) ?_
                                        refine l_nil ?_
                                        refine hK46 _ _ ?_
                                        refine fg7 0 1 2 9 11 12 150 (gS rfl (gS rfl (gS rfl (gS rfl (gS rfl (gS rfl (gS rfl (gS rfl (gS rfl (gS rfl (gS rfl (gS rfl g0)))))))))))) (gS rfl (gS rfl (gS rfl (gS rfl (gS rfl (gS rfl (gS rfl (gS rfl (gS rfl (gS rfl (gS rfl g0))))))))))) (gS rfl (gS rfl (gS rfl (gS rfl (gS rfl (gS rfl (gS rfl (gS rfl (gS rfl (gS rfl g0)))))))))) (gS rfl (gS rfl (gS rfl (gS rfl (gS rfl (gS rfl (gS rfl g0))))))) (gS rfl (gS rfl (gS rfl (gS rfl (gS rfl (gS rfl g0)))))) (gS rfl (gS rfl (gS rfl (gS rfl (gS rfl g0))))) g0 (fun g => ?_)
                                        refine c_condV (i := 150) g0 rfl (fun cB7 => ?_) (fun cB7 => ?_)
                                        · skip
                                          simp only [decide_eq_true_eq, decide_eq_false_iff_not] at cB7
                                          exact absurd cB7 (by rw [hq87]; decide)
                                        · skip
                                          simp only [decide_eq_true_eq, decide_eq_false_iff_not] at cB7
                                          have hC : plC f q = 4 := by rw [plC, if_neg hq0, if_neg hd, if_neg hw2, if_neg (by omega)]
                                          refine c_seq (fun K48 hK48 => ?_)
                                          exact (by
                                            refine c_region ?_
                                            refine l_step (y_moveV (et (gS rfl (gS rfl (gS rfl (gS rfl (gS rfl (gS rfl (gS rfl g0))))))) rfl)) ?_
                                            refine l_step (y_moveV (et (gS rfl (gS rfl (gS rfl (gS rfl (gS rfl (gS rfl (gS rfl g0))))))) rfl)) ?_
                                            refine l_step (y_moveV (et (gS rfl (gS rfl (gS rfl (gS rfl (gS rfl (gS rfl (gS rfl g0))))))) rfl)) ?_
                                            refine l_step (y_moveV (et (gS rfl (gS rfl (gS rfl (gS rfl (gS rfl (gS rfl (gS rfl g0))))))) rfl)) ?_
                                            refine l_eff (e_callV cal_153 (aC (et (gS rfl (gS rfl (gS rfl g0))) rfl) (aC (et (gS rfl (gS rfl g0)) rfl) (aC (et (gS rfl g0) rfl) (aC (Eq.trans (et g0 rfl) (show Value.slice (some ⟨_, 0, none⟩) (tkN q) (tkN q) = .slice (some ⟨_, 0, none⟩) (argL f q).length (argL f q).length by rw [argL_len])) aN)))) (yp_effect hF _ _ _ _ kS (hs.mono hL0) _ _ _ _ _ kF (hf.mono hL0) _ kM (Nat.lt_of_lt_of_le lM U.size) _ hq nbS dSF dMF dSM nbM rm hX (by rw [argL_len]; omega) (kL.mono hL0) hvl (fun b e => ⟨Nat.lt_of_lt_of_le (dL b e).1 U.size, (dL b e).2⟩) (fun b e => G.nb (nbL b e) (dL b e).1) ph.hcp ph.hcp2 ph.hcp3 (fun h9 => by rw [argL_len]; have := tf.out.2.2.2.2 h9; omega))) (fun v49 w49 h49 => ?_)
                                            obtain ⟨cs49, H49, ol49, vl49, rfl, g49, ks49, sc49, km49, lg49, e449, ho49, hn49⟩ := h49
                                            have hU9 := U.size
                                            have hlew49 := g49.le
                                            replace nbS := g49.nb nbS kS.lt
                                            replace nbF := g49.nb nbF kF.lt
                                            replace nbM := g49.nb nbM (Nat.lt_of_lt_of_le lM U.size)
                                            replace hX := hX.mono hlew49
                                            replace n21 := n21.mono hlew49
                                            replace n22 := n22.mono hlew49
                                            replace hL0 := hL0.trans hlew49
                                            replace kF := kF.ch g49.ch (by first | (intro hm; rcases hm with hm | hm | hm; omega; omega; exact (dL _ hm).2.2.1 rfl) | omega | exact hOo.ne (by omega))
                                            replace kS := ks49
                                            replace kM := km49
                                            replace kL := lg49
                                            replace U := U.cc g49.ch (by intro b hb; first | exact .inl (.inl hb) | exact .inl (.inr (.inl hb)) | exact .inl (.inr (.inr (.inl hb))) | exact .inl (.inr (.inr (.inr hb))) | exact hb.elim (fun hb => .inl (.inl hb)) (fun hb => hb.elim (fun hb => .inl (.inr (.inr (.inl hb)))) (fun hb => .inl (.inr (.inr (.inr hb))))) | omega | exact .inr (by omega) | (simp at hb ⊢; omega))
                                            replace G := G.trans g49 (by intro b hb; first | exact .inl (.inl hb) | exact .inl (.inr (.inl hb)) | exact .inl (.inr (.inr (.inl hb))) | exact .inl (.inr (.inr (.inr hb))) | exact hb.elim (fun hb => .inl (.inl hb)) (fun hb => hb.elim (fun hb => .inl (.inr (.inr (.inl hb)))) (fun hb => .inl (.inr (.inr (.inr hb))))) | omega | exact .inr (by omega) | (simp at hb ⊢; omega))
                                            replace hF := g49.fz
                                            have ho9 := ho49
                                            have hn9 := hn49
                                            refine l_step (y_not (et g0 rfl)) ?_
                                            refine l_nil ?_
                                            refine hK48 _ _ ?_
                                            refine fg5 0 1 11 12 68 (gS rfl (gS rfl (gS rfl (gS rfl (gS rfl (gS rfl (gS rfl (gS rfl (gS rfl (gS rfl (gS rfl (gS rfl (gS rfl g0))))))))))))) (gS rfl (gS rfl (gS rfl (gS rfl (gS rfl (gS rfl (gS rfl (gS rfl (gS rfl (gS rfl (gS rfl (gS rfl g0)))))))))))) (gS rfl (gS rfl (gS rfl (gS rfl (gS rfl (gS rfl (gS rfl (gS rfl (gS rfl g0))))))))) (gS rfl (gS rfl (gS rfl (gS rfl (gS rfl (gS rfl (gS rfl (gS rfl g0)))))))) g0 (fun g => ?_)
                                            refine c_false (et g0 rfl) (by rw [show effB s f q = true by unfold effB; split; exact ph.hOk (by assumption); rfl]; rfl) ?_
                                            refine c_skip ?_
                                            refine hQ26 _ _ _ (in_normal ?_)
                                            refine hK25 _ _ ?_
                                            refine fg3 1 11 12 (gS rfl (gS rfl (gS rfl g0))) (gS rfl (gS rfl g0)) (gS rfl g0) (fun g => ?_)
                                            refine c_seq (fun K51 hK51 => ?_)
                                            exact (by
                                              refine c_region ?_
                                              refine l_step (y_moveV (et (gS rfl (gS rfl g0)) rfl)) ?_
                                              refine l_step (y_moveV (et (gS rfl g0) rfl)) ?_
                                              refine l_step (y_nil (et (gS rfl g0) rfl)) ?_
                                              refine l_step (y_fld fld_146_8 (et g0 rfl)) ?_
                                              have rl52 := RowIn.le rF (Nat.succ_pos _)
                                              simp only [List.length_cons, List.length_nil, Nat.zero_add, Nat.reduceAdd] at rl52
                                              refine l_effN (e_store sz_144 (et g0 rfl) (cellsV (et (gS rfl (gS rfl g0)) rfl) rfl) rfl (by first | exact one_bL _ | exact one_uL _ | (intro v hv; simp at hv; subst hv; rfl)) kF (by first | exact Nat.le_of_ble_eq_true rfl | (simp; done) | (simp; omega) | omega)) (fun v52 w52 h52 => ?_)
                                              obtain ⟨rfl, x52⟩ := h52
                                              replace kS := kS.ch x52.ch (by first | omega | exact hOo.ne (by omega))
                                              replace kM := kM.ch x52.ch (by first | omega | exact hOo.ne (by omega))
                                              replace kL := kL.ch x52.ch (by intro q hq hm; first | (have := dL q hq; first | omega | (have := hOo.lim q hm.symm; omega) | (simp only at hm; omega)) | (rcases ho9 q hq with h9 | h9; have := dL _ h9; omega; omega))
                                              replace kF := x52.blk
                                              replace G := G.wr x52 (.inl (by first | rfl | (simp; done))) nbF
                                              replace hF := G.fz
                                              replace U := U.st x52 (.inl (by first | rfl | (simp; done)))
                                              replace oF := kF.oput oF (by omega) (by omega)
                                              replace rF : RowIn _ _ [.int .u8 (f.kind : Nat), .int .u8 (f.ntv : Nat), .bool f.static, vpc, vgas, vval, voo, vol, _, .slice am f.mem.length f.mem.length, .slice ca f.code.length cc, .slice ia f.input.length ic] := kF.rput rF 8 rfl
                                              replace rSe := kF.rputo rSe (by first | (left; omega) | (right; simp only [List.length_cons, List.length_nil, length_bL, length_be, hSv.len]; omega))
                                              replace rCa := kF.rputo rCa (by first | (left; omega) | (right; simp only [List.length_cons, List.length_nil, length_bL, length_be, hSv.len]; omega))
                                              replace rSv := kF.rputo rSv (by first | (left; omega) | (right; simp only [List.length_cons, List.length_nil, length_bL, length_be, hSv.len]; omega))
                                              refine l_nil ?_
                                              refine hK51 _ _ ?_
                                              refine fg2 1 11 (gS rfl (gS rfl (gS rfl (gS rfl (gS rfl (gS rfl g0)))))) (gS rfl (gS rfl (gS rfl (gS rfl (gS rfl g0))))) (fun g => ?_)
                                              refine c_region ?_
                                              refine l_step (y_moveV (et (gS rfl g0) rfl)) ?_
                                              refine l_step (y_moveV (et (gS rfl g0) rfl)) ?_
                                              refine l_step (y_nil (et (gS rfl g0) rfl)) ?_
                                              refine l_step (y_fld fld_146_3 (et g0 rfl)) ?_
                                              obtain ⟨sa53, sn53, sc53, rfl⟩ := n22.sl
                                              have rl53 := RowIn.le rF (Nat.succ_pos _)
                                              simp only [List.length_cons, List.length_nil, Nat.zero_add, Nat.reduceAdd] at rl53
                                              refine l_effN (e_store sz_95 (et g0 rfl) (cellsV (et (gS rfl (gS rfl g0)) rfl) rfl) rfl (by first | exact one_bL _ | exact one_uL _ | (intro v hv; simp at hv; subst hv; rfl)) kF (by first | exact Nat.le_of_ble_eq_true rfl | (simp; done) | (simp; omega) | omega)) (fun v53 w53 h53 => ?_)
                                              obtain ⟨rfl, x53⟩ := h53
                                              replace kS := kS.ch x53.ch (by first | omega | exact hOo.ne (by omega))
                                              replace kM := kM.ch x53.ch (by first | omega | exact hOo.ne (by omega))
                                              replace kL := kL.ch x53.ch (by intro q hq hm; first | (have := dL q hq; first | omega | (have := hOo.lim q hm.symm; omega) | (simp only at hm; omega)) | (rcases ho9 q hq with h9 | h9; have := dL _ h9; omega; omega))
                                              replace kF := x53.blk
                                              replace G := G.wr x53 (.inl (by first | rfl | (simp; done))) nbF
                                              replace hF := G.fz
                                              replace U := U.st x53 (.inl (by first | rfl | (simp; done)))
                                              replace oF := kF.oput oF (by omega) (by omega)
                                              replace rF : RowIn _ _ [.int .u8 (f.kind : Nat), .int .u8 (f.ntv : Nat), .bool f.static, _, vgas, vval, voo, vol, _, .slice am f.mem.length f.mem.length, .slice ca f.code.length cc, .slice ia f.input.length ic] := kF.rput rF 3 rfl
                                              replace rSe := kF.rputo rSe (by first | (left; omega) | (right; simp only [List.length_cons, List.length_nil, length_bL, length_be, hSv.len]; omega))
                                              replace rCa := kF.rputo rCa (by first | (left; omega) | (right; simp only [List.length_cons, List.length_nil, length_bL, length_be, hSv.len]; omega))
                                              replace rSv := kF.rputo rSv (by first | (left; omega) | (right; simp only [List.length_cons, List.length_nil, length_bL, length_be, hSv.len]; omega))
                                              refine l_nil ?_
                                              refine end0 rfl ?_
                                              have eF : plF s f q = { f with stack := plK f q, pc := f.pc + (1 + immN q), mem := effM s f q (argL f q) } := by unfold plF plStk plPC plM; rw [hC]; rfl
                                              have eS : plS s f q = effS s f q (argL f q) := by unfold plS; rw [hC]; rfl
                                              rw [eF, eS]
                                              exact ⟨rfl, _, _, _, _, _, G, kS, sc49, kF, ⟨⟨fo.kind, fo.ntv, by show f.pc + (1 + immN q) < _; have := imm_le q; omega, fo.gas, fo.value, fo.outOff, fo.outLen, fo.self, fo.caller, by show List.length (plK f q) < _; have := fo1; simp only [List.length_append, plK, List.length_take, swp_len, List.length_cons, List.length_nil]; omega, fo.code, fo.input, by show (effM s f q (argL f q)).length < _; rw [effM_len]; exact fo.mem⟩, _, _, _, _, _, _, _, _, _, _, _, _, rF, rSe, rCa, rSv, hSv.mono hL0, n22, (hGa.mono hL0), (hVa.mono hL0), (hOf.mono hL0), (hOl.mono hL0), (hLk.mono hL0), (hCo.mono hL0), (hIn.mono hL0)⟩, oF, kM, kL, e449, fun b e => orI (ho9 b e) id (fun h9 => Nat.le_trans hU9 h9), hn9⟩)))))
                          · skip
                            have hq87 : q ≠ 87 := by have := of_decide_eq_false q35; omega
                            refine l_gskip (j := 2) (t := 76) (by exact rfl) (by exact rfl) (et g0 rfl) (by decide) (by decide) ?_
                            refine l_gskip (j := 2) (t := 76) (by exact rfl) (by exact rfl) (et (gS rfl g0) rfl) (by decide) (by decide) ?_
                            refine l_gskip (j := 2) (t := 76) (by exact rfl) (by exact rfl) (et (gS rfl (gS rfl g0)) rfl) (by decide) (by decide) ?_
                            refine l_gskip (j := 2) (t := 76) (by exact rfl) (by exact rfl) (et (gS rfl (gS rfl (gS rfl g0))) rfl) (by decide) (by decide) ?_
                            refine l_gskip (j := 2) (t := 76) (by exact rfl) (by exact rfl) (et (gS rfl (gS rfl (gS rfl (gS rfl g0)))) rfl) (by decide) (by decide) ?_
                            refine l_step (y_pickF (et (gS rfl (gS rfl (gS rfl (gS rfl (gS rfl g0))))) rfl) rfl) ?_
                            refine l_step (y_assignV (et g0 rfl)) ?_
                            refine l_nil ?_
                            refine hK27 _ _ ?_
                            refine fg9 0 1 2 6 7 9 11 12 71 (gS rfl (gS rfl (gS rfl (gS rfl (gS rfl (gS rfl (gS rfl (gS rfl (gS rfl (gS rfl (gS rfl (gS rfl (gS rfl (gS rfl (gS rfl (gS rfl (gS rfl (gS rfl (gS rfl (gS rfl g0)))))))))))))))))))) (gS rfl (gS rfl (gS rfl (gS rfl (gS rfl (gS rfl (gS rfl (gS rfl (gS rfl (gS rfl (gS rfl (gS rfl (gS rfl (gS rfl (gS rfl (gS rfl (gS rfl (gS rfl (gS rfl g0))))))))))))))))))) (gS rfl (gS rfl (gS rfl (gS rfl (gS rfl (gS rfl (gS rfl (gS rfl (gS rfl (gS rfl (gS rfl (gS rfl (gS rfl (gS rfl (gS rfl (gS rfl (gS rfl (gS rfl g0)))))))))))))))))) (gS rfl (gS rfl (gS rfl (gS rfl (gS rfl (gS rfl (gS rfl (gS rfl (gS rfl (gS rfl (gS rfl (gS rfl (gS rfl (gS rfl (gS rfl (gS rfl (gS rfl g0))))))))))))))))) (gS rfl (gS rfl (gS rfl (gS rfl (gS rfl (gS rfl (gS rfl (gS rfl (gS rfl (gS rfl (gS rfl (gS rfl (gS rfl (gS rfl (gS rfl (gS rfl g0)))))))))))))))) (gS rfl (gS rfl (gS rfl (gS rfl (gS rfl (gS rfl (gS rfl (gS rfl (gS rfl (gS rfl (gS rfl (gS rfl (gS rfl (gS rfl (gS rfl g0))))))))))))))) (gS rfl (gS rfl (gS rfl (gS rfl (gS rfl (gS rfl (gS rfl (gS rfl (gS rfl (gS rfl (gS rfl (gS rfl (gS rfl (gS rfl g0)))))))))))))) (gS rfl (gS rfl (gS rfl (gS rfl (gS rfl (gS rfl (gS rfl (gS rfl (gS rfl (gS rfl (gS rfl (gS rfl (gS rfl g0))))))))))))) g0 (fun g => ?_)
                            have hq0 : ¬ (q = 86 ∨ (q = 87 ∧ argN f.stack 1 ≠ 0)) := by omega
                            refine c_false (et g0 rfl) rfl ?_
                            refine c_seq (fun K55 hK55 => ?_)
                            exact (by
                              refine c_region ?_
                              refine l_step (y_moveV (et (gS rfl (gS rfl (gS rfl (gS rfl (gS rfl (gS rfl g0)))))) rfl)) ?_
                              refine l_step (y_geq (et g0 rfl) rfl) ?_
                              refine l_step (y_moveV (et g0 rfl)) ?_
                              refine l_gpure (j := 2) (t := 90) (by exact rfl) (by exact rfl) (et g0 rfl) rfl (fun hc => (y_moveV (et (gS rfl (gS rfl (gS rfl (gS rfl (gS rfl (gS rfl (gS rfl (gS rfl (gS rfl g0))))))))) rfl))) ?_
                              refine l_gpure (j := 2) (t := 90) (by exact rfl) (by exact rfl) (et (gS rfl g0) rfl) rfl (fun hc => (y_leq (et (cT g0 hc) rfl) rfl)) ?_
                              refine l_step (y_pickA (et (gS rfl (gS rfl g0)) rfl) (et g0 rfl) rfl) ?_
                              refine l_step (y_assignV (et g0 rfl)) ?_
                              refine l_nil ?_
                              refine hK55 _ _ ?_
                              refine fg9 0 1 2 6 7 9 11 12 87 (gS rfl (gS rfl (gS rfl (gS rfl (gS rfl (gS rfl (gS rfl (gS rfl (gS rfl (gS rfl (gS rfl (gS rfl (gS rfl (gS rfl (gS rfl g0))))))))))))))) (gS rfl (gS rfl (gS rfl (gS rfl (gS rfl (gS rfl (gS rfl (gS rfl (gS rfl (gS rfl (gS rfl (gS rfl (gS rfl (gS rfl g0)))))))))))))) (gS rfl (gS rfl (gS rfl (gS rfl (gS rfl (gS rfl (gS rfl (gS rfl (gS rfl (gS rfl (gS rfl (gS rfl (gS rfl g0))))))))))))) (gS rfl (gS rfl (gS rfl (gS rfl (gS rfl (gS rfl (gS rfl (gS rfl (gS rfl (gS rfl (gS rfl (gS rfl g0)))))))))))) (gS rfl (gS rfl (gS rfl (gS rfl (gS rfl (gS rfl (gS rfl (gS rfl (gS rfl (gS rfl (gS rfl g0))))))))))) (gS rfl (gS rfl (gS rfl (gS rfl (gS rfl (gS rfl (gS rfl (gS rfl (gS rfl (gS rfl g0)))))))))) (gS rfl (gS rfl (gS rfl (gS rfl (gS rfl (gS rfl (gS rfl (gS rfl (gS rfl g0))))))))) (gS rfl (gS rfl (gS rfl (gS rfl (gS rfl (gS rfl (gS rfl (gS rfl g0)))))))) g0 (fun g => ?_)
                              refine c_condV (i := 87) g0 rfl (fun cB4 => ?_) (fun cB4 => ?_)
                              · skip
                                simp only [Bool.and_eq_true, Bool.and_eq_false_imp, decide_eq_true_eq, decide_eq_false_iff_not] at cB4
                                have hd : 128 ≤ q ∧ q ≤ 143 := by omega
                                have hC : plC f q = 1 := by rw [plC, if_neg hq0, if_pos hd]
                                have htp : 0 < tkN q := by have := tf.out.2.2.1 hd; omega
                                exact (by
                                  refine c_draw Up 23 [(0, true), (1, true), (2, true), (3, true), (4, true), (5, true), (6, true), (7, true), (8, true), (9, true), (10, true), (11, true), (12, true), (13, true), (14, true), (15, true), (16, true), (17, true), (18, true), (19, true), (20, false), (21, false), (22, true)] (by kernel_rfl) (fun w57 hu => ⟨Up.refl _, ?_⟩)
                                  replace G := G.tr (Go.ofUp hF hu)
                                  replace hF := hF.up hu
                                  replace kS := kS.up hu
                                  replace kF := kF.up hu
                                  replace kM := kM.up hu
                                  replace kL := kL.up hu
                                  replace U := U.tr hu
                                  have SU := Up.refl w57
                                  refine p_step (by exact rfl) (y_moveV (et (gS rfl (gS rfl (gS rfl (gS rfl (gS rfl (gS rfl (gS rfl (gS rfl g0)))))))) rfl)) ?_
                                  refine p_step (by exact rfl) (y_nil (et g0 rfl)) ?_
                                  refine p_step (by exact rfl) (y_fld fld_146_8 (et g0 rfl)) ?_
                                  refine p_step (by exact rfl) (y_load1 one_144 (et g0 rfl) (atS (kF.cell (rF 8 _ rfl)))) ?_
                                  refine p_step (by exact rfl) (y_moveV (et (gS rfl (gS rfl (gS rfl (gS rfl (gS rfl (gS rfl (gS rfl (gS rfl (gS rfl (gS rfl (gS rfl (gS rfl g0)))))))))))) rfl)) ?_
                                  refine p_step (by exact rfl) (y_nil (et g0 rfl)) ?_
                                  refine p_step (by exact rfl) (y_fld fld_146_8 (et g0 rfl)) ?_
                                  refine p_step (by exact rfl) (y_load1 one_144 (et g0 rfl) (atS (kF.cell (rF 8 _ rfl)))) ?_
                                  refine p_step (by exact rfl) (y_len Hvaa.underlying144 (et g0 rfl)) ?_
                                  refine p_step (by exact rfl) (y_moveV (et (gS rfl (gS rfl (gS rfl (gS rfl (gS rfl (gS rfl (gS rfl (gS rfl (gS rfl (gS rfl (gS rfl (gS rfl (gS rfl (gS rfl (gS rfl (gS rfl (gS rfl g0))))))))))))))))) rfl)) ?_
                                  refine p_step (by exact rfl) (y_nil (et g0 rfl)) ?_
                                  refine p_step (by exact rfl) (y_fld fld_146_8 (et g0 rfl)) ?_
                                  refine p_step (by exact rfl) (y_load1 one_144 (et g0 rfl) (atS (kF.cell (rF 8 _ rfl)))) ?_
                                  refine p_step (by exact rfl) (y_len Hvaa.underlying144 (et g0 rfl)) ?_
                                  refine p_step (by exact rfl) (y_slS011n Hvaa.underlying144 sz_95 (et (gS rfl (gS rfl (gS rfl (gS rfl (gS rfl (gS rfl (gS rfl (gS rfl (gS rfl (gS rfl g0)))))))))) rfl) (et (gS rfl (gS rfl (gS rfl (gS rfl (gS rfl g0))))) rfl) (et g0 rfl) ?_ ?_) ?_
                                  omega
                                  omega
                                  refine p_step (by exact rfl) (y_moveV (et (gS rfl (gS rfl (gS rfl (gS rfl (gS rfl (gS rfl (gS rfl (gS rfl (gS rfl (gS rfl (gS rfl (gS rfl (gS rfl (gS rfl (gS rfl (gS rfl (gS rfl (gS rfl (gS rfl g0))))))))))))))))))) rfl)) ?_
                                  refine p_step (by exact rfl) (y_moveV (et (gS rfl (gS rfl (gS rfl (gS rfl (gS rfl (gS rfl (gS rfl (gS rfl (gS rfl (gS rfl (gS rfl (gS rfl (gS rfl (gS rfl (gS rfl (gS rfl (gS rfl (gS rfl (gS rfl (gS rfl (gS rfl (gS rfl g0)))))))))))))))))))))) rfl)) ?_
                                  refine p_step (by exact rfl) (y_sub (et g0 rfl) rfl (subIN (y := 1) ?_ ?_)) ?_
                                  omega
                                  omega
                                  exact (by
                                    obtain ⟨ba, oa, va, ha, hcel, hnv, hvb⟩ := hX.stk hF (i := tkN q - 1) (by rw [argL_len]; omega)
                                    rw [argL_get] at hnv hvb
                                    obtain ⟨xq1, xq2, xq3, rfl⟩ := hnv.sl
                                    refine p_step (by exact rfl) (y_idxSa ha Hvaa.underlying144 sz_95 (et (gS rfl (gS rfl g0)) rfl) (et g0 rfl) ?_) ?_
                                    (omega)
                                    refine p_step (by exact rfl) (y_load1 one_95 (et g0 rfl) (atS hcel)) ?_
                                    refine p_eff (by exact rfl) (e_slice1 (k := 0) Hvaa.underlying144 sz_95 zr_95 rfl (by decide) (et g0 rfl) rfl) (fun v58 w58 h58 => ?_)
                                    obtain ⟨b58, rfl, n58⟩ := h58
                                    replace G := G.tr (Go.ofUp hF n58.up)
                                    replace hF := hF.up n58.up
                                    replace kS := kS.up n58.up
                                    replace kF := kF.up n58.up
                                    replace kM := kM.up n58.up
                                    replace kL := kL.up n58.up
                                    replace U := U.tr n58.up
                                    have kb58 := n58.blk
                                    refine ⟨.inr (SU.tr n58.up), ?_⟩
                                    replace SU := SU.tr n58.up
                                    refine p_eff (by exact rfl) (e_appKK Hvaa.underlying144 sz_95 zr_95 by_95 rfl (by decide) (xs := f.stack) rfl (et (gS rfl (gS rfl (gS rfl (gS rfl (gS rfl (gS rfl g0)))))) rfl) hF (hfull.mono hL0) (et g0 rfl) rfl (show Blk _ _ [_].toArray from kb58) (by intro u hu; simp at hu; subst hu; rfl) ⟨_, rfl, hnv, hvb⟩ (by decide) (by have := fo1; first | omega | (simp only [plK, List.length_take]; omega))) (fun v59 w59 h59 => ?_)
                                    obtain ⟨H59, g59, lv59⟩ := h59
                                    have hlew59 := g59.le
                                    replace nbS := g59.nb nbS kS.lt
                                    replace nbF := g59.nb nbF kF.lt
                                    replace nbM := g59.nb nbM (Nat.lt_of_lt_of_le lM U.size)
                                    replace hX := hX.mono hlew59
                                    replace n21 := n21.mono hlew59
                                    replace n22 := n22.mono hlew59
                                    replace hL0 := hL0.trans hlew59
                                    replace kS := kS.up g59.up
                                    replace kF := kF.up g59.up
                                    replace kM := kM.up g59.up
                                    replace kL := kL.up g59.up
                                    replace U := U.tr g59.up
                                    replace G := G.tr g59
                                    replace hF := g59.fz
                                    obtain ⟨xa, xc, rfl, hxl, hxc⟩ := lv59.val
                                    refine ⟨.inr (SU.tr g59.up), ?_⟩
                                    replace SU := SU.tr g59.up
                                    exact (by
                                      refine p_step (by exact rfl) (y_assignV (et g0 rfl)) ?_
                                      refine p_nil ?_
                                      refine hQ26 _ _ _ (in_normal ?_)
                                      refine hK25 _ _ ?_
                                      refine fg3 1 11 12 (gS rfl (gS rfl (gS rfl (gS rfl (gS rfl (gS rfl (gS rfl (gS rfl (gS rfl (gS rfl (gS rfl (gS rfl (gS rfl (gS rfl (gS rfl (gS rfl (gS rfl (gS rfl (gS rfl (gS rfl (gS rfl (gS rfl (gS rfl (gS rfl (gS rfl (gS rfl (gS rfl (gS rfl (gS rfl (gS rfl (gS rfl g0))))))))))))))))))))))))))))))) (gS rfl (gS rfl (gS rfl (gS rfl (gS rfl (gS rfl (gS rfl (gS rfl (gS rfl (gS rfl (gS rfl (gS rfl (gS rfl (gS rfl (gS rfl (gS rfl (gS rfl (gS rfl (gS rfl (gS rfl (gS rfl (gS rfl (gS rfl (gS rfl (gS rfl (gS rfl g0)))))))))))))))))))))))))) g0 (fun g => ?_)
                                      refine c_seq (fun K60 hK60 => ?_)
                                      exact (by
                                        refine c_region ?_
                                        refine l_step (y_moveV (et (gS rfl (gS rfl g0)) rfl)) ?_
                                        refine l_step (y_moveV (et (gS rfl g0) rfl)) ?_
                                        refine l_step (y_nil (et (gS rfl g0) rfl)) ?_
                                        refine l_step (y_fld fld_146_8 (et g0 rfl)) ?_
                                        have rl61 := RowIn.le rF (Nat.succ_pos _)
                                        simp only [List.length_cons, List.length_nil, Nat.zero_add, Nat.reduceAdd] at rl61
                                        refine l_effN (e_store sz_144 (et g0 rfl) (cellsV (et (gS rfl (gS rfl g0)) rfl) rfl) rfl (by first | exact one_bL _ | exact one_uL _ | (intro v hv; simp at hv; subst hv; rfl)) kF (by first | exact Nat.le_of_ble_eq_true rfl | (simp; done) | (simp; omega) | omega)) (fun v61 w61 h61 => ?_)
                                        obtain ⟨rfl, x61⟩ := h61
                                        replace kS := kS.ch x61.ch (by first | omega | exact hOo.ne (by omega))
                                        replace kM := kM.ch x61.ch (by first | omega | exact hOo.ne (by omega))
                                        replace kL := kL.ch x61.ch (by intro q hq hm; first | (have := dL q hq; first | omega | (have := hOo.lim q hm.symm; omega) | (simp only at hm; omega)) | (rcases ho9 q hq with h9 | h9; have := dL _ h9; omega; omega))
                                        replace kF := x61.blk
                                        replace G := G.wr x61 (.inl (by first | rfl | (simp; done))) nbF
                                        replace hF := G.fz
                                        replace U := U.st x61 (.inl (by first | rfl | (simp; done)))
                                        replace oF := kF.oput oF (by omega) (by omega)
                                        replace rF : RowIn _ _ [.int .u8 (f.kind : Nat), .int .u8 (f.ntv : Nat), .bool f.static, vpc, vgas, vval, voo, vol, _, .slice am f.mem.length f.mem.length, .slice ca f.code.length cc, .slice ia f.input.length ic] := kF.rput rF 8 rfl
                                        replace rSe := kF.rputo rSe (by first | (left; omega) | (right; simp only [List.length_cons, List.length_nil, length_bL, length_be, hSv.len]; omega))
                                        replace rCa := kF.rputo rCa (by first | (left; omega) | (right; simp only [List.length_cons, List.length_nil, length_bL, length_be, hSv.len]; omega))
                                        replace rSv := kF.rputo rSv (by first | (left; omega) | (right; simp only [List.length_cons, List.length_nil, length_bL, length_be, hSv.len]; omega))
                                        refine l_nil ?_
                                        refine hK60 _ _ ?_
                                        refine fg2 1 11 (gS rfl (gS rfl (gS rfl (gS rfl (gS rfl (gS rfl g0)))))) (gS rfl (gS rfl (gS rfl (gS rfl (gS rfl g0))))) (fun g => ?_)
                                        refine c_region ?_
                                        refine l_step (y_moveV (et (gS rfl g0) rfl)) ?_
                                        refine l_step (y_moveV (et (gS rfl g0) rfl)) ?_
                                        refine l_step (y_nil (et (gS rfl g0) rfl)) ?_
                                        refine l_step (y_fld fld_146_3 (et g0 rfl)) ?_
                                        obtain ⟨sa62, sn62, sc62, rfl⟩ := n22.sl
                                        have rl62 := RowIn.le rF (Nat.succ_pos _)
                                        simp only [List.length_cons, List.length_nil, Nat.zero_add, Nat.reduceAdd] at rl62
                                        refine l_effN (e_store sz_95 (et g0 rfl) (cellsV (et (gS rfl (gS rfl g0)) rfl) rfl) rfl (by first | exact one_bL _ | exact one_uL _ | (intro v hv; simp at hv; subst hv; rfl)) kF (by first | exact Nat.le_of_ble_eq_true rfl | (simp; done) | (simp; omega) | omega)) (fun v62 w62 h62 => ?_)
                                        obtain ⟨rfl, x62⟩ := h62
                                        replace kS := kS.ch x62.ch (by first | omega | exact hOo.ne (by omega))
                                        replace kM := kM.ch x62.ch (by first | omega | exact hOo.ne (by omega))
                                        replace kL := kL.ch x62.ch (by intro q hq hm; first | (have := dL q hq; first | omega | (have := hOo.lim q hm.symm; omega) | (simp only at hm; omega)) | (rcases ho9 q hq with h9 | h9; have := dL _ h9; omega; omega))
                                        replace kF := x62.blk
                                        replace G := G.wr x62 (.inl (by first | rfl | (simp; done))) nbF
                                        replace hF := G.fz
                                        replace U := U.st x62 (.inl (by first | rfl | (simp; done)))
                                        replace oF := kF.oput oF (by omega) (by omega)
                                        replace rF : RowIn _ _ [.int .u8 (f.kind : Nat), .int .u8 (f.ntv : Nat), .bool f.static, _, vgas, vval, voo, vol, _, .slice am f.mem.length f.mem.length, .slice ca f.code.length cc, .slice ia f.input.length ic] := kF.rput rF 3 rfl
                                        replace rSe := kF.rputo rSe (by first | (left; omega) | (right; simp only [List.length_cons, List.length_nil, length_bL, length_be, hSv.len]; omega))
                                        replace rCa := kF.rputo rCa (by first | (left; omega) | (right; simp only [List.length_cons, List.length_nil, length_bL, length_be, hSv.len]; omega))
                                        replace rSv := kF.rputo rSv (by first | (left; omega) | (right; simp only [List.length_cons, List.length_nil, length_bL, length_be, hSv.len]; omega))
                                        refine l_nil ?_
                                        refine end0 rfl ?_
                                        have eF : plF s f q = { f with stack := f.stack ++ [argN f.stack (tkN q - 1)], pc := f.pc + (1 + immN q), mem := f.mem } := by unfold plF plStk plPC plM; rw [hC]; rfl
                                        have eS : plS s f q = s := by unfold plS; rw [hC]; rfl
                                        rw [eF, eS]
                                        exact ⟨rfl, _, _, _, _, _, G, kS, hs.mono hL0, kF, ⟨⟨fo.kind, fo.ntv, by show f.pc + (1 + immN q) < _; have := imm_le q; omega, fo.gas, fo.value, fo.outOff, fo.outLen, fo.self, fo.caller, by show List.length (f.stack ++ [argN f.stack (tkN q - 1)]) < _; have := fo1; simp only [List.length_append, plK, List.length_take, swp_len, List.length_cons, List.length_nil]; omega, fo.code, fo.input, fo.mem⟩, _, _, _, _, _, _, _, _, _, _, _, _, rF, rSe, rCa, rSv, hSv.mono hL0, n22, (hGa.mono hL0), (hVa.mono hL0), (hOf.mono hL0), (hOl.mono hL0), lv59, (hCo.mono hL0), (hIn.mono hL0)⟩, oF, kM, kL.mono hL0, hvl, fun b e => .inl e, fun b e => G.nb (nbL b e) (dL b e).1⟩))))
                              · skip
                                simp only [Bool.and_eq_true, Bool.and_eq_false_imp, decide_eq_true_eq, decide_eq_false_iff_not] at cB4
                                have hd : ¬ (128 ≤ q ∧ q ≤ 143) := by omega
                                refine c_seq (fun K63 hK63 => ?_)
                                exact (by
                                  refine c_region ?_
                                  refine l_step (y_moveV (et (gS rfl (gS rfl (gS rfl (gS rfl (gS rfl (gS rfl (gS rfl g0))))))) rfl)) ?_
                                  refine l_step (y_geq (et g0 rfl) rfl) ?_
                                  refine l_step (y_moveV (et g0 rfl)) ?_
                                  refine l_gpure (j := 2) (t := 119) (by exact rfl) (by exact rfl) (et g0 rfl) rfl (fun hc => (y_moveV (et (gS rfl (gS rfl (gS rfl (gS rfl (gS rfl (gS rfl (gS rfl (gS rfl (gS rfl (gS rfl g0)))))))))) rfl))) ?_
                                  refine l_gpure (j := 2) (t := 119) (by exact rfl) (by exact rfl) (et (gS rfl g0) rfl) rfl (fun hc => (y_leq (et (cT g0 hc) rfl) rfl)) ?_
                                  refine l_step (y_pickA (et (gS rfl (gS rfl g0)) rfl) (et g0 rfl) rfl) ?_
                                  refine l_step (y_assignV (et g0 rfl)) ?_
                                  refine l_nil ?_
                                  refine hK63 _ _ ?_
                                  refine fg9 0 1 2 6 7 9 11 12 116 (gS rfl (gS rfl (gS rfl (gS rfl (gS rfl (gS rfl (gS rfl (gS rfl (gS rfl (gS rfl (gS rfl (gS rfl (gS rfl (gS rfl (gS rfl (gS rfl g0)))))))))))))))) (gS rfl (gS rfl (gS rfl (gS rfl (gS rfl (gS rfl (gS rfl (gS rfl (gS rfl (gS rfl (gS rfl (gS rfl (gS rfl (gS rfl (gS rfl g0))))))))))))))) (gS rfl (gS rfl (gS rfl (gS rfl (gS rfl (gS rfl (gS rfl (gS rfl (gS rfl (gS rfl (gS rfl (gS rfl (gS rfl (gS rfl g0)))))))))))))) (gS rfl (gS rfl (gS rfl (gS rfl (gS rfl (gS rfl (gS rfl (gS rfl (gS rfl (gS rfl (gS rfl (gS rfl (gS rfl g0))))))))))))) (gS rfl (gS rfl (gS rfl (gS rfl (gS rfl (gS rfl (gS rfl (gS rfl (gS rfl (gS rfl (gS rfl (gS rfl g0)))))))))))) (gS rfl (gS rfl (gS rfl (gS rfl (gS rfl (gS rfl (gS rfl (gS rfl (gS rfl (gS rfl (gS rfl g0))))))))))) (gS rfl (gS rfl (gS rfl (gS rfl (gS rfl (gS rfl (gS rfl (gS rfl (gS rfl (gS rfl g0)))))))))) (gS rfl (gS rfl (gS rfl (gS rfl (gS rfl (gS rfl (gS rfl (gS rfl (gS rfl g0))))))))) g0 (fun g => ?_)
                                  refine c_condV (i := 116) g0 rfl (fun cB5 => ?_) (fun cB5 => ?_)
                                  · skip
                                    simp only [Bool.and_eq_true, Bool.and_eq_false_imp, decide_eq_true_eq, decide_eq_false_iff_not] at cB5
                                    have hw2 : 144 ≤ q ∧ q ≤ 159 := by omega
                                    have hC : plC f q = 2 := by rw [plC, if_neg hq0, if_neg hd, if_pos hw2]
                                    have htp := tf.out.2.2.2.1 hw2
                                    refine c_seq (fun K65 hK65 => ?_)
                                    exact (by
                                      refine c_region ?_
                                      refine l_step (y_moveV (et (gS rfl (gS rfl g0)) rfl)) ?_
                                      refine l_step (y_moveV (et (gS rfl (gS rfl (gS rfl (gS rfl (gS rfl g0))))) rfl)) ?_
                                      obtain ⟨ba, oa, va, ha, hcel, hnv, hvb⟩ := hX.stk hF (i := 0) (by rw [argL_len]; omega)
                                      rw [argL_get] at hnv hvb
                                      obtain ⟨xq1, xq2, xq3, rfl⟩ := hnv.sl
                                      refine l_step (y_idxSa (i := 0) ha Hvaa.underlying144 sz_95 (et g0 rfl) rfl ?_) ?_
                                      omega
                                      refine l_step (y_load1 one_95 (et g0 rfl) (at1 hcel)) ?_
                                      refine l_eff (e_slice1 (k := 0) Hvaa.underlying144 sz_95 zr_95 rfl (by decide) (et g0 rfl) rfl) (fun v66 w66 h66 => ?_)
                                      obtain ⟨b66, rfl, n66⟩ := h66
                                      replace G := G.tr (Go.ofUp hF n66.up)
                                      replace hF := hF.up n66.up
                                      replace kS := kS.up n66.up
                                      replace kF := kF.up n66.up
                                      replace kM := kM.up n66.up
                                      replace kL := kL.up n66.up
                                      replace U := U.tr n66.up
                                      have kb66 := n66.blk
                                      obtain ⟨base, hbs⟩ : ∃ base, base = w66.heap.size := ⟨_, rfl⟩
                                      obtain ⟨Hs, hHs9⟩ : ∃ Hs, Hs = H22 := ⟨_, rfl⟩
                                      have hXs := hX
                                      rw [← hHs9] at hXs
                                      have hbw : w.heap.size ≤ base := by rw [hbs]; exact U.size
                                      have hHb0 : ∀ q, Store.has H22 q → q < base := fun q hq => by rw [hbs]; exact hF.lt hq
                                      have hbS : bs < base := by omega
                                      have hbF : bf < base := by omega
                                      have hbM : bm < base := by omega
                                      refine l_eff (e_appK Hvaa.underlying144 sz_95 zr_95 by_95 rfl (by decide) (xs := plK f q) hpk.symm (Eq.trans (et (gS rfl (gS rfl (gS rfl (gS rfl g0)))) rfl) (by rw [hpk])) hF (hLk2.mono hL0) (et g0 rfl) rfl (show Blk _ _ [_].toArray from kb66) (by intro u hu; simp at hu; subst hu; rfl) ⟨_, rfl, hnv, hvb⟩ (by decide) (by have := fo1; simp only [plK, List.length_take]; omega)) (fun v67 w67 h67 => ?_)
                                      obtain ⟨hO, u67⟩ := h67
                                      replace G := G.tr (Go.ofUp hF u67)
                                      replace hF := hF.up u67
                                      replace kS := kS.up u67
                                      replace kF := kF.up u67
                                      replace kM := kM.up u67
                                      replace kL := kL.up u67
                                      replace U := U.tr u67
                                      rw [← hbs, ← hHs9] at hO
                                      exact (by
                                        refine l_step (y_assignV (et g0 rfl)) ?_
                                        refine l_nil ?_
                                        refine hK65 _ _ ?_
                                        refine fg5 1 6 9 11 12 (gS rfl (gS rfl (gS rfl (gS rfl (gS rfl (gS rfl (gS rfl (gS rfl (gS rfl (gS rfl (gS rfl (gS rfl (gS rfl (gS rfl (gS rfl g0))))))))))))))) (gS rfl (gS rfl (gS rfl (gS rfl (gS rfl (gS rfl (gS rfl (gS rfl (gS rfl (gS rfl (gS rfl (gS rfl (gS rfl g0))))))))))))) (gS rfl (gS rfl (gS rfl (gS rfl (gS rfl (gS rfl (gS rfl (gS rfl (gS rfl (gS rfl (gS rfl g0))))))))))) (gS rfl (gS rfl (gS rfl (gS rfl (gS rfl (gS rfl (gS rfl (gS rfl (gS rfl (gS rfl g0)))))))))) g0 (fun g => ?_)
                                        refine c_seq (fun K68 hK68 => ?_)
                                        refine c_seq (fun K69 hK69 => ?_)
                                        exact (by
                                          refine c_region ?_
                                          refine l_step (y_moveV (et (gS rfl (gS rfl (gS rfl g0))) rfl)) ?_
                                          refine l_step (y_sub (et g0 rfl) rfl (subIN (y := 2) ?_ ?_)) ?_
                                          omega
                                          omega
                                          refine l_step (y_assignV (et g0 rfl)) ?_
                                          refine l_nil ?_
                                          refine hK69 _ _ ?_
                                          refine fg6 1 6 9 11 12 13 (gS rfl (gS rfl (gS rfl (gS rfl (gS rfl (gS rfl (gS rfl g0))))))) (gS rfl (gS rfl (gS rfl (gS rfl (gS rfl (gS rfl g0)))))) (gS rfl (gS rfl (gS rfl (gS rfl (gS rfl g0))))) (gS rfl (gS rfl (gS rfl (gS rfl g0)))) (gS rfl (gS rfl (gS rfl g0))) g0 (fun g => ?_)
                                          refine c_block (fun Q70 hQ70 => ?_)
                                          refine fg6 1 6 9 11 12 13 (gS rfl (gS rfl (gS rfl (gS rfl (gS rfl g0))))) (gS rfl (gS rfl (gS rfl (gS rfl g0)))) (gS rfl (gS rfl (gS rfl g0))) (gS rfl (gS rfl g0)) (gS rfl g0) g0 (fun g => ?_)
                                          refine c_loop (fun k_ s_ W71 => ∃ (g : Nat → Value) (Hk71 : Store) (ov : Value) (i : Nat), s_ = (upd (upd (upd (upd (upd (upd g 1 (.pointer (some ⟨bf, o, none⟩))) 6 (.int .i64 (tkN q : Nat))) 9 (.slice (some ⟨b4, 0, none⟩) (tkN q) (tkN q))) 11 v22) 12 ov) 13 (.int .i64 (i : Nat))) ∧ i = k_ ∧ (i ≤ tkN q - 2) ∧ (GL P_nat Hs base 95 1 W71.heap.size W71 ov (plK f q ++ [argN f.stack 0] ++ swpL (argN f.stack) (tkN q) i)) ∧ (LeS Hs Hk71) ∧ (∀ q, Hk71.has q → q < base) ∧ Go (fun k => base ≤ k) w67 H22 W71 Hk71) (((tkN q - 2))) ?_ ?_
                                          · exact ⟨g, _, _, (tkN q - 2), rfl, rfl, Nat.le_refl _, by rw [swp_top, List.append_nil]; exact hO, ⟨by rw [hHs9]; exact Le.refl _⟩, hHb0, Go.refl hF⟩
                                          · skip
                                            intro k_ s_ W71 hI K71 hK71
                                            obtain ⟨g, Hk71, ov, i, rfl, rfl, hi, hO, hLs, hHb, V71⟩ := hI
                                            have hle71 := V71.le
                                            replace nbS := V71.nb nbS kS.lt
                                            replace nbF := V71.nb nbF kF.lt
                                            replace nbM := V71.nb nbM (Nat.lt_of_lt_of_le lM U.size)
                                            replace hX := hX.mono hle71
                                            replace n21 := n21.mono hle71
                                            replace n22 := n22.mono hle71
                                            replace hL0 := hL0.trans hle71
                                            replace G := G.trans V71 (by intro b hb; first | exact hb.elim | omega | (simp at hb ⊢; omega))
                                            replace hF := V71.fz
                                            replace kS := kS.ch V71.ch (by first | omega | exact hOo.ne (by omega))
                                            replace kF := kF.ch V71.ch (by first | (intro hm; rcases hm with hm | hm | hm; omega; omega; exact (dL _ hm).2.2.1 rfl) | omega | exact hOo.ne (by omega))
                                            replace kM := kM.ch V71.ch (by first | omega | exact hOo.ne (by omega))
                                            replace kL := kL.ch V71.ch (by intro q hq hm; first | (have := dL q hq; first | omega | (have := hOo.lim q hm.symm; omega) | (simp only at hm; omega)) | (rcases ho9 q hq with h9 | h9; have := dL _ h9; omega; omega))
                                            replace U := U.cc V71.ch (by intro b hb; first | exact hb.elim | omega | (simp at hb ⊢; omega))
                                            have hbW : base ≤ W71.heap.size := by rw [hbs]; exact Nat.le_trans u67.size V71.ch.size
                                            have hFs : Fz W71 Hs := ⟨fun b cs hb => hF.blk b cs (hLs.le b cs hb)⟩
                                            refine c_seq (fun K72 hK72 => ?_)
                                            refine c_seq (fun K73 hK73 => ?_)
                                            exact (by
                                              refine c_region ?_
                                              refine l_step (y_moveV (et g0 rfl)) ?_
                                              refine l_step (y_gtr (et g0 rfl) rfl) ?_
                                              refine l_nil ?_
                                              refine hK73 _ _ ?_
                                              refine fg7 1 6 9 11 12 13 132 (gS rfl (gS rfl (gS rfl (gS rfl (gS rfl (gS rfl (gS rfl g0))))))) (gS rfl (gS rfl (gS rfl (gS rfl (gS rfl (gS rfl g0)))))) (gS rfl (gS rfl (gS rfl (gS rfl (gS rfl g0))))) (gS rfl (gS rfl (gS rfl (gS rfl g0)))) (gS rfl (gS rfl (gS rfl g0))) (gS rfl (gS rfl g0)) g0 (fun g => ?_)
                                              refine c_condV (i := 132) g0 rfl (fun cB6 => ?_) (fun cB6 => ?_)
                                              · skip
                                                
                                                have hi0 : 0 < i := by have := of_decide_eq_true cB6; omega
                                                refine c_skip ?_
                                                refine hK72 _ _ ?_
                                                refine fg6 1 6 9 11 12 13 (gS rfl (gS rfl (gS rfl (gS rfl (gS rfl (gS rfl (gS rfl g0))))))) (gS rfl (gS rfl (gS rfl (gS rfl (gS rfl (gS rfl g0)))))) (gS rfl (gS rfl (gS rfl (gS rfl (gS rfl g0))))) (gS rfl (gS rfl (gS rfl (gS rfl g0)))) (gS rfl (gS rfl (gS rfl g0))) (gS rfl (gS rfl g0)) (fun g => ?_)
                                                refine c_seq (fun K75 hK75 => ?_)
                                                refine c_block (fun Q76 hQ76 => ?_)
                                                exact (by
                                                  refine c_region ?_
                                                  refine l_step (y_moveV (et (gS rfl g0) rfl)) ?_
                                                  refine l_step (y_moveV (et (gS rfl (gS rfl (gS rfl (gS rfl g0)))) rfl)) ?_
                                                  refine l_step (y_moveV (et (gS rfl (gS rfl g0)) rfl)) ?_
                                                  obtain ⟨ba, oa, va, ha, hcel, hnv, hvb⟩ := hXs.stk hFs (i := i) (by rw [argL_len]; omega)
                                                  rw [argL_get] at hnv hvb
                                                  obtain ⟨xq1, xq2, xq3, rfl⟩ := hnv.sl
                                                  refine l_step (y_idxSa ha Hvaa.underlying144 sz_95 (et (gS rfl g0) rfl) (et g0 rfl) ?_) ?_
                                                  omega
                                                  refine l_step (y_load1 one_95 (et g0 rfl) (at1 hcel)) ?_
                                                  refine l_eff (e_slice1 (k := 0) Hvaa.underlying144 sz_95 zr_95 rfl (by decide) (et g0 rfl) rfl) (fun v77 w77 h77 => ?_)
                                                  obtain ⟨b77, rfl, n77⟩ := h77
                                                  replace G := G.tr (Go.ofUp hF n77.up)
                                                  replace V71 := V71.tr (Go.ofUp hF n77.up)
                                                  replace hF := hF.up n77.up
                                                  replace kS := kS.up n77.up
                                                  replace kF := kF.up n77.up
                                                  replace kM := kM.up n77.up
                                                  replace kL := kL.up n77.up
                                                  replace hO := hO.up n77.up
                                                  replace U := U.tr n77.up
                                                  have kb77 := n77.blk
                                                  have hbz : base ≤ w77.heap.size := Nat.le_trans hbW n77.up.size
                                                  refine l_eff (e_appL Hvaa.underlying144 sz_95 zr_95 by_95 rfl (by decide) (et (gS rfl (gS rfl (gS rfl (gS rfl (gS rfl g0))))) rfl) hO (et g0 rfl) rfl (show Blk _ _ [_].toArray from kb77) (by intro u hu; simp at hu; subst hu; rfl) ⟨_, rfl, hnv, hvb⟩ (by decide) (by simp only [List.length_append, plK, List.length_take, swp_len, List.length_cons, List.length_nil]; omega) hbz) (fun v78 w78 h78 => ?_)
                                                  obtain ⟨hO78, c78, hown78⟩ := h78
                                                  have hOo := hO
                                                  replace G := G.chs c78 (by intro b hb; have h9 := hOo.lim b hb.symm; first | exact .inr (by omega) | exact .inl (.inr (by omega)) | omega) (by intro q hq hh; have := hHb q hh; have := hOo.lim q hq.symm; omega)
                                                  replace V71 := V71.chs c78 (by intro b hb; have h9 := hOo.lim b hb.symm; first | exact .inr (by omega) | exact .inl (.inr (by omega)) | omega) (by intro q hq hh; have := hHb q hh; have := hOo.lim q hq.symm; omega)
                                                  replace hF := G.fz
                                                  replace kS := kS.ch c78 (by first | omega | exact hOo.ne (by omega))
                                                  replace kF := kF.ch c78 (by first | (intro hm; rcases hm with hm | hm | hm; omega; omega; exact (dL _ hm).2.2.1 rfl) | omega | exact hOo.ne (by omega))
                                                  replace kM := kM.ch c78 (by first | omega | exact hOo.ne (by omega))
                                                  replace kL := kL.ch c78 (by intro q hq hm; first | (have := dL q hq; first | omega | (have := hOo.lim q hm.symm; omega) | (simp only at hm; omega)) | (rcases ho9 q hq with h9 | h9; have := dL _ h9; omega; omega))
                                                  replace hO := hO78
                                                  replace U := U.cc c78 (by intro b hb; have h9 := hOo.lim b hb.symm; first | exact .inr (by omega) | exact .inl (.inr (by omega)) | omega)
                                                  exact (by
                                                    refine l_step (y_assignV (et g0 rfl)) ?_
                                                    refine l_nil ?_
                                                    refine hQ76 _ _ _ (in_normal ?_)
                                                    refine hK75 _ _ ?_
                                                    refine fg6 1 6 9 11 12 13 (gS rfl (gS rfl (gS rfl (gS rfl (gS rfl (gS rfl (gS rfl (gS rfl (gS rfl (gS rfl (gS rfl (gS rfl (gS rfl g0))))))))))))) (gS rfl (gS rfl (gS rfl (gS rfl (gS rfl (gS rfl (gS rfl (gS rfl (gS rfl (gS rfl (gS rfl (gS rfl g0)))))))))))) (gS rfl (gS rfl (gS rfl (gS rfl (gS rfl (gS rfl (gS rfl (gS rfl (gS rfl (gS rfl (gS rfl g0))))))))))) (gS rfl (gS rfl (gS rfl (gS rfl (gS rfl (gS rfl (gS rfl (gS rfl (gS rfl (gS rfl g0)))))))))) g0 (gS rfl (gS rfl (gS rfl (gS rfl (gS rfl (gS rfl (gS rfl (gS rfl g0)))))))) (fun g => ?_)
                                                    refine c_region ?_
                                                    refine l_step (y_moveV (et g0 rfl)) ?_
                                                    refine l_step (y_sub (et g0 rfl) rfl (subIN (y := 1) ?_ ?_)) ?_
                                                    omega
                                                    omega
                                                    refine l_step (y_assignV (et g0 rfl)) ?_
                                                    refine l_nil ?_
                                                    refine fK6 1 6 9 11 12 13 (gS rfl (gS rfl (gS rfl (gS rfl (gS rfl (gS rfl (gS rfl (gS rfl g0)))))))) (gS rfl (gS rfl (gS rfl (gS rfl (gS rfl (gS rfl (gS rfl g0))))))) (gS rfl (gS rfl (gS rfl (gS rfl (gS rfl (gS rfl g0)))))) (gS rfl (gS rfl (gS rfl (gS rfl (gS rfl g0))))) (gS rfl (gS rfl (gS rfl (gS rfl g0)))) g0 (fun g => ?_)
                                                    exact hK71 (((i - 1))) _ _ (by omega) ⟨g, _, _, (i - 1), rfl, rfl, by omega, by rw [swp_next (by omega) hi, ← List.append_assoc]; exact hO, hLs, hHb, V71⟩))
                                              · skip
                                                
                                                have hi0 : i = 0 := by have := of_decide_eq_false cB6; omega
                                                subst hi0
                                                refine c_exit ?_
                                                refine hQ70 _ _ _ (in_exit ?_)
                                                refine hK68 _ _ ?_
                                                refine fg5 1 6 9 11 12 (gS rfl (gS rfl (gS rfl (gS rfl (gS rfl (gS rfl (gS rfl g0))))))) (gS rfl (gS rfl (gS rfl (gS rfl (gS rfl (gS rfl g0)))))) (gS rfl (gS rfl (gS rfl (gS rfl (gS rfl g0))))) (gS rfl (gS rfl (gS rfl (gS rfl g0)))) (gS rfl (gS rfl (gS rfl g0))) (fun g => ?_)
                                                exact (by
                                                  refine c_region ?_
                                                  refine l_step (y_moveV (et g0 rfl)) ?_
                                                  refine l_step (y_moveV (et (gS rfl (gS rfl (gS rfl g0))) rfl)) ?_
                                                  refine l_step (y_moveV (et (gS rfl (gS rfl (gS rfl (gS rfl (gS rfl g0))))) rfl)) ?_
                                                  refine l_step (y_sub (et g0 rfl) rfl (subIN (y := 1) ?_ ?_)) ?_
                                                  omega
                                                  omega
                                                  obtain ⟨ba, oa, va, ha, hcel, hnv, hvb⟩ := hXs.stk hFs (i := tkN q - 1) (by rw [argL_len]; omega)
                                                  rw [argL_get] at hnv hvb
                                                  obtain ⟨xq1, xq2, xq3, rfl⟩ := hnv.sl
                                                  refine l_step (y_idxSa ha Hvaa.underlying144 sz_95 (et (gS rfl (gS rfl g0)) rfl) (et g0 rfl) ?_) ?_
                                                  omega
                                                  refine l_step (y_load1 one_95 (et g0 rfl) (at1 hcel)) ?_
                                                  refine l_eff (e_slice1 (k := 0) Hvaa.underlying144 sz_95 zr_95 rfl (by decide) (et g0 rfl) rfl) (fun v79 w79 h79 => ?_)
                                                  obtain ⟨b79, rfl, n79⟩ := h79
                                                  replace G := G.tr (Go.ofUp hF n79.up)
                                                  replace hF := hF.up n79.up
                                                  replace kS := kS.up n79.up
                                                  replace kF := kF.up n79.up
                                                  replace kM := kM.up n79.up
                                                  replace kL := kL.up n79.up
                                                  replace hO := hO.up n79.up
                                                  replace U := U.tr n79.up
                                                  have kb79 := n79.blk
                                                  have hbz : base ≤ w79.heap.size := Nat.le_trans hbW n79.up.size
                                                  refine l_eff (e_appL Hvaa.underlying144 sz_95 zr_95 by_95 rfl (by decide) (et (gS rfl (gS rfl (gS rfl (gS rfl (gS rfl (gS rfl g0)))))) rfl) hO (et g0 rfl) rfl (show Blk _ _ [_].toArray from kb79) (by intro u hu; simp at hu; subst hu; rfl) ⟨_, rfl, hnv, hvb⟩ (by decide) (by simp only [List.length_append, plK, List.length_take, swp_len, List.length_cons, List.length_nil]; omega) hbz) (fun v80 w80 h80 => ?_)
                                                  obtain ⟨hO80, c80, hown80⟩ := h80
                                                  have hOo := hO
                                                  replace G := G.chs c80 (by intro b hb; have h9 := hOo.lim b hb.symm; first | exact .inr (by omega) | exact .inl (.inr (by omega)) | omega) (by intro q hq hh; have := hHb q hh; have := hOo.lim q hq.symm; omega)
                                                  replace hF := G.fz
                                                  replace kS := kS.ch c80 (by first | omega | exact hOo.ne (by omega))
                                                  replace kF := kF.ch c80 (by first | (intro hm; rcases hm with hm | hm | hm; omega; omega; exact (dL _ hm).2.2.1 rfl) | omega | exact hOo.ne (by omega))
                                                  replace kM := kM.ch c80 (by first | omega | exact hOo.ne (by omega))
                                                  replace kL := kL.ch c80 (by intro q hq hm; first | (have := dL q hq; first | omega | (have := hOo.lim q hm.symm; omega) | (simp only at hm; omega)) | (rcases ho9 q hq with h9 | h9; have := dL _ h9; omega; omega))
                                                  replace hO := hO80
                                                  replace U := U.cc c80 (by intro b hb; have h9 := hOo.lim b hb.symm; first | exact .inr (by omega) | exact .inl (.inr (by omega)) | omega)
                                                  exact (by
                                                    refine l_step (y_assignV (et g0 rfl)) ?_
                                                    refine l_nil ?_
                                                    refine hQ26 _ _ _ (in_normal ?_)
                                                    refine hK25 _ _ ?_
                                                    refine fg3 1 11 12 (gS rfl (gS rfl (gS rfl (gS rfl (gS rfl (gS rfl (gS rfl (gS rfl (gS rfl (gS rfl (gS rfl (gS rfl (gS rfl g0))))))))))))) (gS rfl (gS rfl (gS rfl (gS rfl (gS rfl (gS rfl (gS rfl (gS rfl (gS rfl (gS rfl g0)))))))))) g0 (fun g => ?_)
                                                    refine c_seq (fun K81 hK81 => ?_)
                                                    exact (by
                                                      refine c_region ?_
                                                      refine l_step (y_moveV (et (gS rfl (gS rfl g0)) rfl)) ?_
                                                      refine l_step (y_moveV (et (gS rfl g0) rfl)) ?_
                                                      refine l_step (y_nil (et (gS rfl g0) rfl)) ?_
                                                      refine l_step (y_fld fld_146_8 (et g0 rfl)) ?_
                                                      obtain ⟨Hz82, Gz82, hlz82, lvz82, hnz82⟩ := hO.keep' mono_nat G hLs.le hbw
                                                      replace G := Gz82
                                                      replace hF := G.fz
                                                      replace hX := hX.mono hlz82
                                                      replace n21 := n21.mono hlz82
                                                      replace n22 := n22.mono hlz82
                                                      replace hL0 := hL0.trans hlz82
                                                      replace nbS := fun hh => (hnz82 _ hh).elim nbS (fun e => hO.ne (by omega) e)
                                                      replace nbF := fun hh => (hnz82 _ hh).elim nbF (fun e => hO.ne (by omega) e)
                                                      replace nbM := fun hh => (hnz82 _ hh).elim nbM (fun e => hO.ne (by omega) e)
                                                      obtain ⟨xa, xc, rfl, hxl, hxc⟩ := lvz82.val
                                                      have rl83 := RowIn.le rF (Nat.succ_pos _)
                                                      simp only [List.length_cons, List.length_nil, Nat.zero_add, Nat.reduceAdd] at rl83
                                                      refine l_effN (e_store sz_144 (et g0 rfl) (cellsV (et (gS rfl (gS rfl g0)) rfl) rfl) rfl (by first | exact one_bL _ | exact one_uL _ | (intro v hv; simp at hv; subst hv; rfl)) kF (by first | exact Nat.le_of_ble_eq_true rfl | (simp; done) | (simp; omega) | omega)) (fun v83 w83 h83 => ?_)
                                                      obtain ⟨rfl, x83⟩ := h83
                                                      replace kS := kS.ch x83.ch (by first | omega | exact hOo.ne (by omega))
                                                      replace kM := kM.ch x83.ch (by first | omega | exact hOo.ne (by omega))
                                                      replace kL := kL.ch x83.ch (by intro q hq hm; first | (have := dL q hq; first | omega | (have := hOo.lim q hm.symm; omega) | (simp only at hm; omega)) | (rcases ho9 q hq with h9 | h9; have := dL _ h9; omega; omega))
                                                      replace kF := x83.blk
                                                      replace G := G.wr x83 (.inl (by first | rfl | (simp; done))) nbF
                                                      replace hF := G.fz
                                                      replace U := U.st x83 (.inl (by first | rfl | (simp; done)))
                                                      replace oF := kF.oput oF (by omega) (by omega)
                                                      replace rF : RowIn _ _ [.int .u8 (f.kind : Nat), .int .u8 (f.ntv : Nat), .bool f.static, vpc, vgas, vval, voo, vol, _, .slice am f.mem.length f.mem.length, .slice ca f.code.length cc, .slice ia f.input.length ic] := kF.rput rF 8 rfl
                                                      replace rSe := kF.rputo rSe (by first | (left; omega) | (right; simp only [List.length_cons, List.length_nil, length_bL, length_be, hSv.len]; omega))
                                                      replace rCa := kF.rputo rCa (by first | (left; omega) | (right; simp only [List.length_cons, List.length_nil, length_bL, length_be, hSv.len]; omega))
                                                      replace rSv := kF.rputo rSv (by first | (left; omega) | (right; simp only [List.length_cons, List.length_nil, length_bL, length_be, hSv.len]; omega))
                                                      refine l_nil ?_
                                                      refine hK81 _ _ ?_
                                                      refine fg2 1 11 (gS rfl (gS rfl (gS rfl (gS rfl (gS rfl (gS rfl g0)))))) (gS rfl (gS rfl (gS rfl (gS rfl (gS rfl g0))))) (fun g => ?_)
                                                      refine c_region ?_
                                                      exact (by
                                                        refine l_step (y_moveV (et (gS rfl g0) rfl)) ?_
                                                        refine l_step (y_moveV (et (gS rfl g0) rfl)) ?_
                                                        refine l_step (y_nil (et (gS rfl g0) rfl)) ?_
                                                        refine l_step (y_fld fld_146_3 (et g0 rfl)) ?_
                                                        obtain ⟨sa84, sn84, sc84, rfl⟩ := n22.sl
                                                        have rl84 := RowIn.le rF (Nat.succ_pos _)
                                                        simp only [List.length_cons, List.length_nil, Nat.zero_add, Nat.reduceAdd] at rl84
                                                        refine l_effN (e_store sz_95 (et g0 rfl) (cellsV (et (gS rfl (gS rfl g0)) rfl) rfl) rfl (by first | exact one_bL _ | exact one_uL _ | (intro v hv; simp at hv; subst hv; rfl)) kF (by first | exact Nat.le_of_ble_eq_true rfl | (simp; done) | (simp; omega) | omega)) (fun v84 w84 h84 => ?_)
                                                        obtain ⟨rfl, x84⟩ := h84
                                                        replace kS := kS.ch x84.ch (by first | omega | exact hOo.ne (by omega))
                                                        replace kM := kM.ch x84.ch (by first | omega | exact hOo.ne (by omega))
                                                        replace kL := kL.ch x84.ch (by intro q hq hm; first | (have := dL q hq; first | omega | (have := hOo.lim q hm.symm; omega) | (simp only at hm; omega)) | (rcases ho9 q hq with h9 | h9; have := dL _ h9; omega; omega))
                                                        replace kF := x84.blk
                                                        replace G := G.wr x84 (.inl (by first | rfl | (simp; done))) nbF
                                                        replace hF := G.fz
                                                        replace U := U.st x84 (.inl (by first | rfl | (simp; done)))
                                                        replace oF := kF.oput oF (by omega) (by omega)
                                                        replace rF : RowIn _ _ [.int .u8 (f.kind : Nat), .int .u8 (f.ntv : Nat), .bool f.static, _, vgas, vval, voo, vol, _, .slice am f.mem.length f.mem.length, .slice ca f.code.length cc, .slice ia f.input.length ic] := kF.rput rF 3 rfl
                                                        replace rSe := kF.rputo rSe (by first | (left; omega) | (right; simp only [List.length_cons, List.length_nil, length_bL, length_be, hSv.len]; omega))
                                                        replace rCa := kF.rputo rCa (by first | (left; omega) | (right; simp only [List.length_cons, List.length_nil, length_bL, length_be, hSv.len]; omega))
                                                        replace rSv := kF.rputo rSv (by first | (left; omega) | (right; simp only [List.length_cons, List.length_nil, length_bL, length_be, hSv.len]; omega))
                                                        refine l_nil ?_
                                                        refine end0 rfl ?_
                                                        have eF : plF s f q = { f with stack := plK f q ++ [argN f.stack 0] ++ swpL (argN f.stack) (tkN q) 0 ++ [argN f.stack (tkN q - 1)], pc := f.pc + (1 + immN q), mem := f.mem } := by unfold plF plStk plPC plM; rw [hC]; rfl
                                                        have eS : plS s f q = s := by unfold plS; rw [hC]; rfl
                                                        rw [eF, eS]
                                                        exact ⟨rfl, _, _, _, _, _, G, kS, hs.mono hL0, kF, ⟨⟨fo.kind, fo.ntv, by show f.pc + (1 + immN q) < _; have := imm_le q; omega, fo.gas, fo.value, fo.outOff, fo.outLen, fo.self, fo.caller, by show List.length (plK f q ++ [argN f.stack 0] ++ swpL (argN f.stack) (tkN q) 0 ++ [argN f.stack (tkN q - 1)]) < _; have := fo1; simp only [List.length_append, plK, List.length_take, swp_len, List.length_cons, List.length_nil]; omega, fo.code, fo.input, fo.mem⟩, _, _, _, _, _, _, _, _, _, _, _, _, rF, rSe, rCa, rSv, hSv.mono hL0, n22, (hGa.mono hL0), (hVa.mono hL0), (hOf.mono hL0), (hOl.mono hL0), lvz82, (hCo.mono hL0), (hIn.mono hL0)⟩, oF, kM, kL.mono hL0, hvl, fun b e => .inl e, fun b e => G.nb (nbL b e) (dL b e).1⟩))))))))
                                  · skip
                                    simp only [Bool.and_eq_true, Bool.and_eq_false_imp, decide_eq_true_eq, decide_eq_false_iff_not] at cB5
                                    have hw2 : ¬ (144 ≤ q ∧ q ≤ 159) := by omega
                                    refine c_seq (fun K85 hK85 => ?_)
                                    exact (by
                                      refine c_region ?_
                                      refine l_step (y_moveV (et (gS rfl (gS rfl (gS rfl (gS rfl (gS rfl g0))))) rfl)) ?_
                                      refine l_step (y_eql (et g0 rfl) rfl) ?_
                                      refine l_step (y_assignV (et g0 rfl)) ?_
                                      refine l_nil ?_
                                      refine hK85 _ _ ?_
                                      refine fg7 0 1 2 9 11 12 150 (gS rfl (gS rfl (gS rfl (gS rfl (gS rfl (gS rfl (gS rfl (gS rfl (gS rfl (gS rfl (gS rfl (gS rfl g0)))))))))))) (gS rfl (gS rfl (gS rfl (gS rfl (gS rfl (gS rfl (gS rfl (gS rfl (gS rfl (gS rfl (gS rfl g0))))))))))) (gS rfl (gS rfl (gS rfl (gS rfl (gS rfl (gS rfl (gS rfl (gS rfl (gS rfl (gS rfl g0)))))))))) (gS rfl (gS rfl (gS rfl (gS rfl (gS rfl (gS rfl (gS rfl g0))))))) (gS rfl (gS rfl (gS rfl (gS rfl (gS rfl (gS rfl g0)))))) (gS rfl (gS rfl (gS rfl (gS rfl (gS rfl g0))))) g0 (fun g => ?_)
                                      refine c_condV (i := 150) g0 rfl (fun cB7 => ?_) (fun cB7 => ?_)
                                      · skip
                                        simp only [decide_eq_true_eq, decide_eq_false_iff_not] at cB7
                                        have hC : plC f q = 3 := by rw [plC, if_neg hq0, if_neg hd, if_neg hw2, if_pos (by omega)]
                                        exact (by
                                          refine c_region ?_
                                          refine l_step (y_moveV (et (gS rfl (gS rfl g0)) rfl)) ?_
                                          refine l_step (y_moveV (et (gS rfl (gS rfl (gS rfl (gS rfl (gS rfl (gS rfl (gS rfl (gS rfl g0)))))))) rfl)) ?_
                                          refine l_step (y_moveV (et (gS rfl (gS rfl (gS rfl (gS rfl (gS rfl (gS rfl (gS rfl (gS rfl g0)))))))) rfl)) ?_
                                          refine l_step (y_moveV (et (gS rfl (gS rfl (gS rfl (gS rfl (gS rfl (gS rfl (gS rfl (gS rfl g0)))))))) rfl)) ?_
                                          refine l_step (y_moveV (et (gS rfl (gS rfl (gS rfl (gS rfl (gS rfl (gS rfl (gS rfl (gS rfl g0)))))))) rfl)) ?_
                                          refine l_eff (e_callV cal_152 (aC (et (gS rfl (gS rfl (gS rfl g0))) rfl) (aC (et (gS rfl (gS rfl g0)) rfl) (aC (et (gS rfl g0) rfl) (aC (Eq.trans (et g0 rfl) (show Value.slice (some ⟨_, 0, none⟩) (tkN q) (tkN q) = .slice (some ⟨_, 0, none⟩) (argL f q).length (argL f q).length by rw [argL_len])) aN)))) (yp_value hKec hF _ _ _ _ kS (hs.mono hL0) _ _ _ _ _ kF (hf.mono hL0) _ kM (Nat.lt_of_lt_of_le lM U.size) _ hq nbS dSF dMF dSM rm hX (by rw [argL_len]; omega) ph.hrd)) (fun v87 w87 h87 => ?_)
                                          obtain ⟨cs87, H87, g87, ks87, sc87, e487, n87, q87⟩ := h87
                                          obtain ⟨vN, hvN⟩ : ∃ x, Hid (x = valN s f q (argL f q)) := ⟨_, ⟨rfl⟩⟩
                                          rw [← hvN.out] at n87 q87
                                          have hlew87 := g87.le
                                          replace nbS := g87.nb nbS kS.lt
                                          replace nbF := g87.nb nbF kF.lt
                                          replace nbM := g87.nb nbM (Nat.lt_of_lt_of_le lM U.size)
                                          replace hX := hX.mono hlew87
                                          replace n21 := n21.mono hlew87
                                          replace n22 := n22.mono hlew87
                                          replace hL0 := hL0.trans hlew87
                                          replace kF := kF.ch g87.ch (by first | (intro hm; rcases hm with hm | hm | hm; omega; omega; exact (dL _ hm).2.2.1 rfl) | omega | exact hOo.ne (by omega))
                                          replace kM := kM.ch g87.ch (by first | omega | exact hOo.ne (by omega))
                                          replace kL := kL.ch g87.ch (by intro q hq hm; first | (have := dL q hq; first | omega | (have := hOo.lim q hm.symm; omega) | (simp only at hm; omega)) | (rcases ho9 q hq with h9 | h9; have := dL _ h9; omega; omega))
                                          replace kS := ks87
                                          replace U := U.cc g87.ch (by intro b hb; first | exact .inl (.inl hb) | exact .inl (.inr (.inl hb)) | exact .inl (.inr (.inr (.inl hb))) | exact .inl (.inr (.inr (.inr hb))) | exact hb.elim (fun hb => .inl (.inl hb)) (fun hb => hb.elim (fun hb => .inl (.inr (.inr (.inl hb)))) (fun hb => .inl (.inr (.inr (.inr hb))))) | omega | exact .inr (by omega) | (simp at hb ⊢; omega))
                                          replace G := G.trans g87 (by intro b hb; first | exact .inl (.inl hb) | exact .inl (.inr (.inl hb)) | exact .inl (.inr (.inr (.inl hb))) | exact .inl (.inr (.inr (.inr hb))) | exact hb.elim (fun hb => .inl (.inl hb)) (fun hb => hb.elim (fun hb => .inl (.inr (.inr (.inl hb)))) (fun hb => .inl (.inr (.inr (.inr hb))))) | omega | exact .inr (by omega) | (simp at hb ⊢; omega))
                                          replace hF := g87.fz
                                          obtain ⟨vq1, vq2, vq3, rfl⟩ := n87.sl
                                          refine l_eff (e_slice1 (k := 0) Hvaa.underlying144 sz_95 zr_95 rfl (by decide) (et g0 rfl) rfl) (fun v88 w88 h88 => ?_)
                                          obtain ⟨b88, rfl, n88⟩ := h88
                                          replace G := G.tr (Go.ofUp hF n88.up)
                                          replace hF := hF.up n88.up
                                          replace kS := kS.up n88.up
                                          replace kF := kF.up n88.up
                                          replace kM := kM.up n88.up
                                          replace kL := kL.up n88.up
                                          replace U := U.tr n88.up
                                          have kb88 := n88.blk
                                          exact (by
                                            refine l_eff (e_appKK Hvaa.underlying144 sz_95 zr_95 by_95 rfl (by decide) (xs := plK f q) hpk.symm (Eq.trans (et (gS rfl (gS rfl (gS rfl (gS rfl (gS rfl (gS rfl g0)))))) rfl) (by rw [hpk])) hF (hLk2.mono hL0) (et g0 rfl) rfl (show Blk _ _ [_].toArray from kb88) (by intro u hu; simp at hu; subst hu; rfl) ⟨_, rfl, n87, (W_bd q87)⟩ (by decide) (by have := fo1; first | omega | (simp only [plK, List.length_take]; omega))) (fun v89 w89 h89 => ?_)
                                            obtain ⟨H89, g89, lv89⟩ := h89
                                            have hlew89 := g89.le
                                            replace nbS := g89.nb nbS kS.lt
                                            replace nbF := g89.nb nbF kF.lt
                                            replace nbM := g89.nb nbM (Nat.lt_of_lt_of_le lM U.size)
                                            replace hX := hX.mono hlew89
                                            replace n21 := n21.mono hlew89
                                            replace n22 := n22.mono hlew89
                                            replace sc87 := sc87.mono hlew89
                                            replace n87 := n87.mono hlew89
                                            replace hL0 := hL0.trans hlew89
                                            replace kS := kS.up g89.up
                                            replace kF := kF.up g89.up
                                            replace kM := kM.up g89.up
                                            replace kL := kL.up g89.up
                                            replace U := U.tr g89.up
                                            replace G := G.tr g89
                                            replace hF := g89.fz
                                            obtain ⟨xa, xc, rfl, hxl, hxc⟩ := lv89.val
                                            refine l_step (y_assignV (et g0 rfl)) ?_
                                            refine l_nil ?_
                                            refine hQ26 _ _ _ (in_normal ?_)
                                            refine hK25 _ _ ?_
                                            refine fg3 1 11 12 (gS rfl (gS rfl (gS rfl (gS rfl (gS rfl (gS rfl (gS rfl (gS rfl (gS rfl (gS rfl (gS rfl (gS rfl (gS rfl (gS rfl (gS rfl g0))))))))))))))) (gS rfl (gS rfl (gS rfl (gS rfl (gS rfl (gS rfl (gS rfl (gS rfl (gS rfl (gS rfl (gS rfl (gS rfl g0)))))))))))) g0 (fun g => ?_)
                                            refine c_seq (fun K90 hK90 => ?_)
                                            exact (by
                                              refine c_region ?_
                                              refine l_step (y_moveV (et (gS rfl (gS rfl g0)) rfl)) ?_
                                              refine l_step (y_moveV (et (gS rfl g0) rfl)) ?_
                                              refine l_step (y_nil (et (gS rfl g0) rfl)) ?_
                                              refine l_step (y_fld fld_146_8 (et g0 rfl)) ?_
                                              have rl91 := RowIn.le rF (Nat.succ_pos _)
                                              simp only [List.length_cons, List.length_nil, Nat.zero_add, Nat.reduceAdd] at rl91
                                              refine l_effN (e_store sz_144 (et g0 rfl) (cellsV (et (gS rfl (gS rfl g0)) rfl) rfl) rfl (by first | exact one_bL _ | exact one_uL _ | (intro v hv; simp at hv; subst hv; rfl)) kF (by first | exact Nat.le_of_ble_eq_true rfl | (simp; done) | (simp; omega) | omega)) (fun v91 w91 h91 => ?_)
                                              obtain ⟨rfl, x91⟩ := h91
                                              replace kS := kS.ch x91.ch (by first | omega | exact hOo.ne (by omega))
                                              replace kM := kM.ch x91.ch (by first | omega | exact hOo.ne (by omega))
                                              replace kL := kL.ch x91.ch (by intro q hq hm; first | (have := dL q hq; first | omega | (have := hOo.lim q hm.symm; omega) | (simp only at hm; omega)) | (rcases ho9 q hq with h9 | h9; have := dL _ h9; omega; omega))
                                              replace kF := x91.blk
                                              replace G := G.wr x91 (.inl (by first | rfl | (simp; done))) nbF
                                              replace hF := G.fz
                                              replace U := U.st x91 (.inl (by first | rfl | (simp; done)))
                                              replace oF := kF.oput oF (by omega) (by omega)
                                              replace rF : RowIn _ _ [.int .u8 (f.kind : Nat), .int .u8 (f.ntv : Nat), .bool f.static, vpc, vgas, vval, voo, vol, _, .slice am f.mem.length f.mem.length, .slice ca f.code.length cc, .slice ia f.input.length ic] := kF.rput rF 8 rfl
                                              replace rSe := kF.rputo rSe (by first | (left; omega) | (right; simp only [List.length_cons, List.length_nil, length_bL, length_be, hSv.len]; omega))
                                              replace rCa := kF.rputo rCa (by first | (left; omega) | (right; simp only [List.length_cons, List.length_nil, length_bL, length_be, hSv.len]; omega))
                                              replace rSv := kF.rputo rSv (by first | (left; omega) | (right; simp only [List.length_cons, List.length_nil, length_bL, length_be, hSv.len]; omega))
                                              refine l_nil ?_
                                              refine hK90 _ _ ?_
                                              refine fg2 1 11 (gS rfl (gS rfl (gS rfl (gS rfl (gS rfl (gS rfl g0)))))) (gS rfl (gS rfl (gS rfl (gS rfl (gS rfl g0))))) (fun g => ?_)
                                              refine c_region ?_
                                              refine l_step (y_moveV (et (gS rfl g0) rfl)) ?_
                                              refine l_step (y_moveV (et (gS rfl g0) rfl)) ?_
                                              refine l_step (y_nil (et (gS rfl g0) rfl)) ?_
                                              refine l_step (y_fld fld_146_3 (et g0 rfl)) ?_
                                              obtain ⟨sa92, sn92, sc92, rfl⟩ := n22.sl
                                              have rl92 := RowIn.le rF (Nat.succ_pos _)
                                              simp only [List.length_cons, List.length_nil, Nat.zero_add, Nat.reduceAdd] at rl92
                                              refine l_effN (e_store sz_95 (et g0 rfl) (cellsV (et (gS rfl (gS rfl g0)) rfl) rfl) rfl (by first | exact one_bL _ | exact one_uL _ | (intro v hv; simp at hv; subst hv; rfl)) kF (by first | exact Nat.le_of_ble_eq_true rfl | (simp; done) | (simp; omega) | omega)) (fun v92 w92 h92 => ?_)
                                              obtain ⟨rfl, x92⟩ := h92
                                              replace kS := kS.ch x92.ch (by first | omega | exact hOo.ne (by omega))
                                              replace kM := kM.ch x92.ch (by first | omega | exact hOo.ne (by omega))
                                              replace kL := kL.ch x92.ch (by intro q hq hm; first | (have := dL q hq; first | omega | (have := hOo.lim q hm.symm; omega) | (simp only at hm; omega)) | (rcases ho9 q hq with h9 | h9; have := dL _ h9; omega; omega))
                                              replace kF := x92.blk
                                              replace G := G.wr x92 (.inl (by first | rfl | (simp; done))) nbF
                                              replace hF := G.fz
                                              replace U := U.st x92 (.inl (by first | rfl | (simp; done)))
                                              replace oF := kF.oput oF (by omega) (by omega)
                                              replace rF : RowIn _ _ [.int .u8 (f.kind : Nat), .int .u8 (f.ntv : Nat), .bool f.static, _, vgas, vval, voo, vol, _, .slice am f.mem.length f.mem.length, .slice ca f.code.length cc, .slice ia f.input.length ic] := kF.rput rF 3 rfl
                                              replace rSe := kF.rputo rSe (by first | (left; omega) | (right; simp only [List.length_cons, List.length_nil, length_bL, length_be, hSv.len]; omega))
                                              replace rCa := kF.rputo rCa (by first | (left; omega) | (right; simp only [List.length_cons, List.length_nil, length_bL, length_be, hSv.len]; omega))
                                              replace rSv := kF.rputo rSv (by first | (left; omega) | (right; simp only [List.length_cons, List.length_nil, length_bL, length_be, hSv.len]; omega))
                                              refine l_nil ?_
                                              refine end0 rfl ?_
                                              have eF : plF s f q = { f with stack := plK f q ++ [vN], pc := f.pc + (1 + immN q), mem := f.mem } := by unfold plF plStk plPC plM; rw [hC, hvN.out]; rfl
                                              have eS : plS s f q = valS s f q (argL f q) := by unfold plS; rw [hC]; rfl
                                              rw [eF, eS]
                                              exact ⟨rfl, _, _, _, _, _, G, kS, sc87, kF, ⟨⟨fo.kind, fo.ntv, by show f.pc + (1 + immN q) < _; have := imm_le q; omega, fo.gas, fo.value, fo.outOff, fo.outLen, fo.self, fo.caller, by show List.length (plK f q ++ [vN]) < _; have := fo1; simp only [List.length_append, plK, List.length_take, swp_len, List.length_cons, List.length_nil]; omega, fo.code, fo.input, fo.mem⟩, _, _, _, _, _, _, _, _, _, _, _, _, rF, rSe, rCa, rSv, hSv.mono hL0, n22, (hGa.mono hL0), (hVa.mono hL0), (hOf.mono hL0), (hOl.mono hL0), lv89, (hCo.mono hL0), (hIn.mono hL0)⟩, oF, kM, by rw [valS_logs]; exact kL.mono hL0, e487.trans hvl, fun b e => .inl e, fun b e => G.nb (nbL b e) (dL b e).1⟩)))
                                      · skip
                                        simp only [decide_eq_true_eq, decide_eq_false_iff_not] at cB7
                                        have hC : plC f q = 4 := by rw [plC, if_neg hq0, if_neg hd, if_neg hw2, if_neg (by omega)]
                                        refine c_seq (fun K93 hK93 => ?_)
                                        exact (by
                                          refine c_region ?_
                                          refine l_step (y_moveV (et (gS rfl (gS rfl (gS rfl (gS rfl (gS rfl (gS rfl (gS rfl g0))))))) rfl)) ?_
                                          refine l_step (y_moveV (et (gS rfl (gS rfl (gS rfl (gS rfl (gS rfl (gS rfl (gS rfl g0))))))) rfl)) ?_
                                          refine l_step (y_moveV (et (gS rfl (gS rfl (gS rfl (gS rfl (gS rfl (gS rfl (gS rfl g0))))))) rfl)) ?_
                                          refine l_step (y_moveV (et (gS rfl (gS rfl (gS rfl (gS rfl (gS rfl (gS rfl (gS rfl g0))))))) rfl)) ?_
                                          refine l_eff (e_callV cal_153 (aC (et (gS rfl (gS rfl (gS rfl g0))) rfl) (aC (et (gS rfl (gS rfl g0)) rfl) (aC (et (gS rfl g0) rfl) (aC (Eq.trans (et g0 rfl) (show Value.slice (some ⟨_, 0, none⟩) (tkN q) (tkN q) = .slice (some ⟨_, 0, none⟩) (argL f q).length (argL f q).length by rw [argL_len])) aN)))) (yp_effect hF _ _ _ _ kS (hs.mono hL0) _ _ _ _ _ kF (hf.mono hL0) _ kM (Nat.lt_of_lt_of_le lM U.size) _ hq nbS dSF dMF dSM nbM rm hX (by rw [argL_len]; omega) (kL.mono hL0) hvl (fun b e => ⟨Nat.lt_of_lt_of_le (dL b e).1 U.size, (dL b e).2⟩) (fun b e => G.nb (nbL b e) (dL b e).1) ph.hcp ph.hcp2 ph.hcp3 (fun h9 => by rw [argL_len]; have := tf.out.2.2.2.2 h9; omega))) (fun v94 w94 h94 => ?_)
                                          obtain ⟨cs94, H94, ol94, vl94, rfl, g94, ks94, sc94, km94, lg94, e494, ho94, hn94⟩ := h94
                                          have hU9 := U.size
                                          have hlew94 := g94.le
                                          replace nbS := g94.nb nbS kS.lt
                                          replace nbF := g94.nb nbF kF.lt
                                          replace nbM := g94.nb nbM (Nat.lt_of_lt_of_le lM U.size)
                                          replace hX := hX.mono hlew94
                                          replace n21 := n21.mono hlew94
                                          replace n22 := n22.mono hlew94
                                          replace hL0 := hL0.trans hlew94
                                          replace kF := kF.ch g94.ch (by first | (intro hm; rcases hm with hm | hm | hm; omega; omega; exact (dL _ hm).2.2.1 rfl) | omega | exact hOo.ne (by omega))
                                          replace kS := ks94
                                          replace kM := km94
                                          replace kL := lg94
                                          replace U := U.cc g94.ch (by intro b hb; first | exact .inl (.inl hb) | exact .inl (.inr (.inl hb)) | exact .inl (.inr (.inr (.inl hb))) | exact .inl (.inr (.inr (.inr hb))) | exact hb.elim (fun hb => .inl (.inl hb)) (fun hb => hb.elim (fun hb => .inl (.inr (.inr (.inl hb)))) (fun hb => .inl (.inr (.inr (.inr hb))))) | omega | exact .inr (by omega) | (simp at hb ⊢; omega))
                                          replace G := G.trans g94 (by intro b hb; first | exact .inl (.inl hb) | exact .inl (.inr (.inl hb)) | exact .inl (.inr (.inr (.inl hb))) | exact .inl (.inr (.inr (.inr hb))) | exact hb.elim (fun hb => .inl (.inl hb)) (fun hb => hb.elim (fun hb => .inl (.inr (.inr (.inl hb)))) (fun hb => .inl (.inr (.inr (.inr hb))))) | omega | exact .inr (by omega) | (simp at hb ⊢; omega))
                                          replace hF := g94.fz
                                          have ho9 := ho94
                                          have hn9 := hn94
                                          refine l_step (y_not (et g0 rfl)) ?_
                                          refine l_nil ?_
                                          refine hK93 _ _ ?_
                                          refine fg5 0 1 11 12 68 (gS rfl (gS rfl (gS rfl (gS rfl (gS rfl (gS rfl (gS rfl (gS rfl (gS rfl (gS rfl (gS rfl (gS rfl (gS rfl g0))))))))))))) (gS rfl (gS rfl (gS rfl (gS rfl (gS rfl (gS rfl (gS rfl (gS rfl (gS rfl (gS rfl (gS rfl (gS rfl g0)))))))))))) (gS rfl (gS rfl (gS rfl (gS rfl (gS rfl (gS rfl (gS rfl (gS rfl (gS rfl g0))))))))) (gS rfl (gS rfl (gS rfl (gS rfl (gS rfl (gS rfl (gS rfl (gS rfl g0)))))))) g0 (fun g => ?_)
                                          refine c_false (et g0 rfl) (by rw [show effB s f q = true by unfold effB; split; exact ph.hOk (by assumption); rfl]; rfl) ?_
                                          refine c_skip ?_
                                          refine hQ26 _ _ _ (in_normal ?_)
                                          refine hK25 _ _ ?_
                                          refine fg3 1 11 12 (gS rfl (gS rfl (gS rfl g0))) (gS rfl (gS rfl g0)) (gS rfl g0) (fun g => ?_)
                                          refine c_seq (fun K96 hK96 => ?_)
                                          exact (by
                                            refine c_region ?_
                                            refine l_step (y_moveV (et (gS rfl (gS rfl g0)) rfl)) ?_
                                            refine l_step (y_moveV (et (gS rfl g0) rfl)) ?_
                                            refine l_step (y_nil (et (gS rfl g0) rfl)) ?_
                                            refine l_step (y_fld fld_146_8 (et g0 rfl)) ?_
                                            have rl97 := RowIn.le rF (Nat.succ_pos _)
                                            simp only [List.length_cons, List.length_nil, Nat.zero_add, Nat.reduceAdd] at rl97
                                            refine l_effN (e_store sz_144 (et g0 rfl) (cellsV (et (gS rfl (gS rfl g0)) rfl) rfl) rfl (by first | exact one_bL _ | exact one_uL _ | (intro v hv; simp at hv; subst hv; rfl)) kF (by first | exact Nat.le_of_ble_eq_true rfl | (simp; done) | (simp; omega) | omega)) (fun v97 w97 h97 => ?_)
                                            obtain ⟨rfl, x97⟩ := h97
                                            replace kS := kS.ch x97.ch (by first | omega | exact hOo.ne (by omega))
                                            replace kM := kM.ch x97.ch (by first | omega | exact hOo.ne (by omega))
                                            replace kL := kL.ch x97.ch (by intro q hq hm; first | (have := dL q hq; first | omega | (have := hOo.lim q hm.symm; omega) | (simp only at hm; omega)) | (rcases ho9 q hq with h9 | h9; have := dL _ h9; omega; omega))
                                            replace kF := x97.blk
                                            replace G := G.wr x97 (.inl (by first | rfl | (simp; done))) nbF
                                            replace hF := G.fz
                                            replace U := U.st x97 (.inl (by first | rfl | (simp; done)))
                                            replace oF := kF.oput oF (by omega) (by omega)
                                            replace rF : RowIn _ _ [.int .u8 (f.kind : Nat), .int .u8 (f.ntv : Nat), .bool f.static, vpc, vgas, vval, voo, vol, _, .slice am f.mem.length f.mem.length, .slice ca f.code.length cc, .slice ia f.input.length ic] := kF.rput rF 8 rfl
                                            replace rSe := kF.rputo rSe (by first | (left; omega) | (right; simp only [List.length_cons, List.length_nil, length_bL, length_be, hSv.len]; omega))
                                            replace rCa := kF.rputo rCa (by first | (left; omega) | (right; simp only [List.length_cons, List.length_nil, length_bL, length_be, hSv.len]; omega))
                                            replace rSv := kF.rputo rSv (by first | (left; omega) | (right; simp only [List.length_cons, List.length_nil, length_bL, length_be, hSv.len]; omega))
                                            refine l_nil ?_
                                            refine hK96 _ _ ?_
                                            refine fg2 1 11 (gS rfl (gS rfl (gS rfl (gS rfl (gS rfl (gS rfl g0)))))) (gS rfl (gS rfl (gS rfl (gS rfl (gS rfl g0))))) (fun g => ?_)
                                            refine c_region ?_
                                            refine l_step (y_moveV (et (gS rfl g0) rfl)) ?_
                                            refine l_step (y_moveV (et (gS rfl g0) rfl)) ?_
                                            refine l_step (y_nil (et (gS rfl g0) rfl)) ?_
                                            refine l_step (y_fld fld_146_3 (et g0 rfl)) ?_
                                            obtain ⟨sa98, sn98, sc98, rfl⟩ := n22.sl
                                            have rl98 := RowIn.le rF (Nat.succ_pos _)
                                            simp only [List.length_cons, List.length_nil, Nat.zero_add, Nat.reduceAdd] at rl98
                                            refine l_effN (e_store sz_95 (et g0 rfl) (cellsV (et (gS rfl (gS rfl g0)) rfl) rfl) rfl (by first | exact one_bL _ | exact one_uL _ | (intro v hv; simp at hv; subst hv; rfl)) kF (by first | exact Nat.le_of_ble_eq_true rfl | (simp; done) | (simp; omega) | omega)) (fun v98 w98 h98 => ?_)
                                            obtain ⟨rfl, x98⟩ := h98
                                            replace kS := kS.ch x98.ch (by first | omega | exact hOo.ne (by omega))
                                            replace kM := kM.ch x98.ch (by first | omega | exact hOo.ne (by omega))
                                            replace kL := kL.ch x98.ch (by intro q hq hm; first | (have := dL q hq; first | omega | (have := hOo.lim q hm.symm; omega) | (simp only at hm; omega)) | (rcases ho9 q hq with h9 | h9; have := dL _ h9; omega; omega))
                                            replace kF := x98.blk
                                            replace G := G.wr x98 (.inl (by first | rfl | (simp; done))) nbF
                                            replace hF := G.fz
                                            replace U := U.st x98 (.inl (by first | rfl | (simp; done)))
                                            replace oF := kF.oput oF (by omega) (by omega)
                                            replace rF : RowIn _ _ [.int .u8 (f.kind : Nat), .int .u8 (f.ntv : Nat), .bool f.static, _, vgas, vval, voo, vol, _, .slice am f.mem.length f.mem.length, .slice ca f.code.length cc, .slice ia f.input.length ic] := kF.rput rF 3 rfl
                                            replace rSe := kF.rputo rSe (by first | (left; omega) | (right; simp only [List.length_cons, List.length_nil, length_bL, length_be, hSv.len]; omega))
                                            replace rCa := kF.rputo rCa (by first | (left; omega) | (right; simp only [List.length_cons, List.length_nil, length_bL, length_be, hSv.len]; omega))
                                            replace rSv := kF.rputo rSv (by first | (left; omega) | (right; simp only [List.length_cons, List.length_nil, length_bL, length_be, hSv.len]; omega))
                                            refine l_nil ?_
                                            refine end0 rfl ?_
                                            have eF : plF s f q = { f with stack := plK f q, pc := f.pc + (1 + immN q), mem := effM s f q (argL f q) } := by unfold plF plStk plPC plM; rw [hC]; rfl
                                            have eS : plS s f q = effS s f q (argL f q) := by unfold plS; rw [hC]; rfl
                                            rw [eF, eS]
                                            exact ⟨rfl, _, _, _, _, _, G, kS, sc94, kF, ⟨⟨fo.kind, fo.ntv, by show f.pc + (1 + immN q) < _; have := imm_le q; omega, fo.gas, fo.value, fo.outOff, fo.outLen, fo.self, fo.caller, by show List.length (plK f q) < _; have := fo1; simp only [List.length_append, plK, List.length_take, swp_len, List.length_cons, List.length_nil]; omega, fo.code, fo.input, by show (effM s f q (argL f q)).length < _; rw [effM_len]; exact fo.mem⟩, _, _, _, _, _, _, _, _, _, _, _, _, rF, rSe, rCa, rSv, hSv.mono hL0, n22, (hGa.mono hL0), (hVa.mono hL0), (hOf.mono hL0), (hOl.mono hL0), (hLk.mono hL0), (hCo.mono hL0), (hIn.mono hL0)⟩, oF, kM, kL, e494, fun b e => orI (ho9 b e) id (fun h9 => Nat.le_trans hU9 h9), hn9⟩))))))))))))))
end Go.Proofs.YgvaawGreat
