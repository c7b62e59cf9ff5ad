import Derived.Test.YgvaawGreatY33
import Derived.Test.YgvaawGreatFK
set_option maxRecDepth 100000
set_option maxHeartbeats 4000000
set_option linter.unusedSimpArgs false
set_option linter.unusedVariables false
namespace Go.Proofs.YgvaawGreat
open Go
theorem Go.ext {M : Nat → Prop} {w w' : World} {H H' H2 : Store} {b : Nat} (g : Go M w H w' H') (hF : Fz w' H2) (hl : Le H' H2) (hn : ∀ q, H2.has q → H'.has q ∨ q = b) (hf : w.heap.size ≤ b) : Go M w H w' H2 :=
  ⟨g.ch, hF, g.le.trans hl, fun q hq => by
    rcases hn q hq with h | h
    · exact g.new q h
    · rw [h]; exact .inr hf⟩
theorem len24 {a : Nat} {x y z u : Value} : (bL (be 20 a) ++ [x, y, z, u]).length = 24 := by rw [List.length_append, length_bL, length_be]; rfl
theorem one_four {x y z u : Value} (h1 : x.one1 = true) (h2 : y.one1 = true) (h3 : z.one1 = true) (h4 : u.one1 = true) : ∀ v ∈ [x, y, z, u], v.one1 = true := by
  intro v hv
  simp at hv
  rcases hv with rfl | rfl | rfl | rfl <;> assumption
theorem acct_set {a : Nat} {x y z u v : Value} : spl (bL (be 20 a) ++ [x, y, z, u]).toArray (0 + 23) [v] = (bL (be 20 a) ++ [x, y, z, v]).toArray := by
  have h := spl_mid (bL (be 20 a) ++ [x, y, z]) u [] v (0 + 23) (by rw [List.length_append, length_bL, length_be]; rfl)
  simpa using h
theorem Fz.of {w : World} {H H' : Store} (h : Fz w H') (hl : Le H H') : Fz w H := ⟨fun b cs hb => h.blk b cs (hl b cs hb)⟩
/-- what a clone needs -/
structure ClH (s : YSt) : Prop where
  slots : ∀ A ∈ s.now.accts, A.slots.length < 16777216
  logs : ∀ x ∈ s.now.logs, x.topics.length < 16777216 ∧ x.data.length ≤ 1099511627776
theorem acct_bd {H : Store} {c : List Value} {A : YAcct} (h : P_acct H c A) : A.nonce < 18446744073709551616 ∧ A.bal < W256 ∧ A.code.length < 4294967296 := by
  obtain ⟨vn, vb, vc, vs, h1, h2, h3, h4, h5, h6, h7⟩ := h
  exact h7
theorem nil_len {α : Type} {P : Cp α} {k c n : Nat} {H : Store} {xs : List α} (h : LV P k H (.slice none n c) xs) : xs.length = 0 := by
  obtain ⟨cs, h1, h2, h3⟩ := h.ex
  rcases h1.at' with ⟨_, h4⟩ | ⟨b, o, c', ds, h4, _⟩
  · exact h4
  · cases h4
theorem one_one {x : Value} (h1 : x.one1 = true) : ∀ v ∈ [x], v.one1 = true := by
  intro v hv
  simp at hv
  rw [hv]; exact h1
theorem yp_clone {w : World} {H : Store} (hF : Fz w H) (bs : Nat) (cs : Array Value) (s : YSt) (vf : Value) (kS : Blk w bs cs) (hs : SC H cs s vf) {ol : Option Nat} {vl : Value} (kL : LG w H ol vl s.now.logs) (hvl : cs[4]? = some vl) (dL : ∀ b, ol = some b → b < w.heap.size) (ch : ClH s) :
    Ret 131 [.pointer (some ⟨bs, 0, none⟩)] w (fun v w' => ∃ c H', v = .agg c.toArray ∧ Go No w H w' H' ∧ P_world H' c s.now) := by
  obtain ⟨aa, ac, wa, wc, sa, sc, vr, la, lc, ta, tc, ma, mc, ga, gc, oa, oc, ra, rc, vlim, vtx, vleft, vpr, vtot, rS, rOr, rMd, hAc, hWA, hWS, hRf, hTm, hMd, hGn, hSr, hRt, hLm, hTx, hLf, hPr, hTt⟩ := hs.ex
  have so := hs.ok
  have so1 := so.accts
  have so2 := so.warmA
  have so3 := so.warmS
  have so4 := so.temps
  have so5 := so.start
  have so6 := so.logs
  have so7 := so.made
  have so8 := so.gone
  have so9 := so.ret
  have eC := hs.env
  obtain ⟨eha, ehc, rE1, rE2, rE3, rE4, rE5, rE6, hHs⟩ := hs.env.ex
  have eo := hs.env.ok
  have eo1 := eo.hashes
  have lS := kS.lt
  obtain rfl : vl = .slice la s.now.logs.length lc := Option.some.inj (hvl.symm.trans (rS 4 _ rfl))
  refine enter (n := 180) Hvaa.func131 rfl rfl (Nat.le_of_ble_eq_true rfl) ?_
  have U := Up.refl w
  have G : Go (No) w H w H := Go.refl hF
  have hL0 : Le H H := Le.refl H
  refine c_seq (fun K1 hK1 => ?_)
  exact (by
    refine c_region ?_
    refine l_eff (e_alloc zr_98) (fun v2 w2 h2 => ?_)
    obtain ⟨b2, rfl, n2⟩ := h2
    have f2 : w.heap.size ≤ b2 := Nat.le_trans U.size n2.fresh
    have nb2 := hF.nb n2.fresh
    replace G := G.tr (Go.ofUp hF n2.up)
    replace hF := hF.up n2.up
    replace kS := kS.up n2.up
    replace kL := kL.up n2.up
    replace U := U.tr n2.up
    have k2 := n2.blk
    refine l_nil ?_
    refine hK1 _ _ ?_
    refine c_seq (fun K3 hK3 => ?_)
    exact (by
      refine fgv2 0 2 (gS rfl g0) g0 (fun g z0 z2 e0 e2 => ?_)
      refine c_drawJ (fun s_ w_ => ∃ (g : Nat → Value) (b5 : Nat) (vr9 vl9 : Value) (Hj4 : Store), s_ = (upd (upd (upd g 0 z0) 2 z2) 3 (.pointer (some ⟨b5, 0, none⟩))) ∧ Go No w2 H w_ Hj4 ∧ w2.heap.size ≤ b5 ∧ Blk w_ b5 ([.slice none 0 0, .slice none 0 0, .slice none 0 0, vr9, vl9, .slice none 0 0, .slice none 0 0, .slice none 0 0].toArray) ∧ ¬ Hj4.has b5 ∧ (NV Hj4 vr9 s.now.refund) ∧ (LV P_log 22 Hj4 vl9 s.now.logs) ∧ (∃ a n, vl9 = .slice a n n)) Up 12 (.pure 0 (.pure 1 (.pure 2 (.pure 3 (.pure 5 (.pure 6 (.pure 7 (.pure 8 (.two 4 (.two 9 (.pure 10 (.eff 11 (.eff 12 .fin))) 11 (.eff 9 (.pure 10 (.eff 12 .fin)))) 11 (.eff 4 (.eff 9 (.pure 10 (.eff 12 .fin))))))))))))) (by kernel_rfl) (fun w6 hu => ⟨Up.refl _, ?_⟩) ?_
      · skip
        subst e0 e2
        replace G := G.tr (Go.ofUp hF hu)
        replace hF := hF.up hu
        replace k2 := k2.up hu
        replace kS := kS.up hu
        replace kL := kL.up hu
        replace U := U.tr hu
        have SU := Up.refl w6
        have V4 : Go No w2 H w6 H := ⟨hu, hF, Le.refl _, fun _ h => .inl h⟩
        refine t_step (by exact rfl) (y_moveV (et (gS rfl g0) rfl)) ?_
        refine t_step (by exact rfl) (y_nil (et g0 rfl)) ?_
        refine t_step (by exact rfl) (y_fld fld_98_3 (et g0 rfl)) ?_
        refine t_step (by exact rfl) (y_load1 one_95 (et g0 rfl) (atS (kS.cell (rS 3 _ rfl)))) ?_
        refine t_step (by exact rfl) (y_moveV (et (gS rfl (gS rfl (gS rfl (gS rfl (gS rfl g0))))) rfl)) ?_
        refine t_step (by exact rfl) (y_nil (et g0 rfl)) ?_
        refine t_step (by exact rfl) (y_fld fld_98_4 (et g0 rfl)) ?_
        refine t_step (by exact rfl) (y_load1 one_42 (et g0 rfl) (atS (kS.cell (rS 4 _ rfl)))) ?_
        refine t_two ?_ ?_
        · skip
          refine t_eff (by exact rfl) (e_callV cal_217 (aC (et (gS rfl (gS rfl (gS rfl (gS rfl g0)))) rfl) aN) (yp_natOf hF (hRf.mono hL0) (bd_up (bd_64 so.refund) (by decide)))) (fun v7 w7 h7 => ?_)
          obtain ⟨H7, g7, n7⟩ := h7
          have hlew7 := g7.le
          replace nb2 := g7.nb nb2 k2.lt
          replace hL0 := hL0.trans hlew7
          replace k2 := k2.up g7.up
          replace kS := kS.up g7.up
          replace kL := kL.up g7.up
          replace U := U.tr g7.up
          replace G := G.tr g7
          replace V4 := V4.tr g7
          replace hF := g7.fz
          obtain ⟨na7, nn7, nc7, rfl⟩ := n7.sl
          refine ⟨.inr (SU.tr g7.up), ?_⟩
          replace SU := SU.tr g7.up
          refine t_two ?_ ?_
          · skip
            refine t_eff (by exact rfl) (e_callV cal_71 (aC (et (gS rfl g0) rfl) aN) (yp_logsOf hF ((kL.mono hL0).rv hF) (Nat.le_refl _) (by omega) ch.logs)) (fun v8 w8 h8 => ?_)
            obtain ⟨H8, g8, lv8, ya, yn, rfl⟩ := h8
            have hlew8 := g8.le
            replace nb2 := g8.nb nb2 k2.lt
            replace n7 := n7.mono hlew8
            replace hL0 := hL0.trans hlew8
            replace k2 := k2.up g8.up
            replace kS := kS.up g8.up
            replace kL := kL.up g8.up
            replace U := U.tr g8.up
            replace G := G.tr g8
            replace V4 := V4.tr g8
            replace hF := g8.fz
            refine ⟨.inr (SU.tr g8.up), ?_⟩
            replace SU := SU.tr g8.up
            have hb9 : ∀ w, (Instr.build 98 ([(3, (.slice na7 nn7 nc7)), (4, (.slice ya yn yn))] : List (Nat × Value)).toArray).run Hvaa.prog w = .ok (.agg ([[.slice none 0 0], [.slice none 0 0], [.slice none 0 0], ([(.slice na7 nn7 nc7)]), ([.slice ya yn yn]), [.slice none 0 0], [.slice none 0 0], [.slice none 0 0]] : List (List Value)).flatten.toArray) w := bld_run zr_98 plc_98 (fill_flat (off := 3) (k := 1) (f := [.slice none 0 0]) (c := [(.slice na7 nn7 nc7)]) (v := (.slice na7 nn7 nc7)) rfl rfl (by first | (simp [length_bL, length_be, length_uL]; done) | rfl) (by first | rfl | (simp [length_bL, length_be, length_uL]; done)) rfl (by first | (simp [length_bL, length_be, length_uL]; done) | rfl) (fill_flat (off := 4) (k := 1) (f := [.slice none 0 0]) (c := [.slice ya yn yn]) (v := (.slice ya yn yn)) rfl rfl (by first | (simp [length_bL, length_be, length_uL]; done) | rfl) (by first | (simp [length_bL, length_be, length_uL]; done) | rfl) rfl (by first | (simp [length_bL, length_be, length_uL]; done) | rfl) (fill_nil _ _)))
            refine t_step (by exact rfl) ((y_bld (bC (et (gS rfl g0) rfl) (bC (et g0 rfl) bN)) hb9).to (congrArg (fun l : List Value => Value.agg l.toArray) (show _ = [.slice none 0 0, .slice none 0 0, .slice none 0 0, (.slice na7 nn7 nc7), .slice ya yn yn, .slice none 0 0, .slice none 0 0, .slice none 0 0] by simp))) ?_
            refine t_one ?_
            refine t_eff (by exact rfl) (e_alloc zr_98) (fun v10 w10 h10 => ?_)
            obtain ⟨b10, rfl, n10⟩ := h10
            have d2_10 : b2 < b10 := Nat.lt_of_lt_of_le k2.lt n10.fresh
            have f10 : w.heap.size ≤ b10 := Nat.le_trans U.size n10.fresh
            have nb10 := hF.nb n10.fresh
            have fS10 := Nat.le_trans SU.size n10.fresh
            have fV4_10 := Nat.le_trans V4.ch.size n10.fresh
            replace G := G.tr (Go.ofUp hF n10.up)
            replace V4 := V4.tr (Go.ofUp hF n10.up)
            replace hF := hF.up n10.up
            replace k2 := k2.up n10.up
            replace kS := kS.up n10.up
            replace kL := kL.up n10.up
            replace U := U.tr n10.up
            have k10 := n10.blk
            refine ⟨.inr (SU.tr n10.up), ?_⟩
            replace SU := SU.tr n10.up
            refine t_one ?_
            refine t_effN (by exact rfl) (e_store sz_98 (et g0 rfl) (cellsV (et (gS rfl g0) rfl) rfl) rfl (by intro v hv; simp only [List.mem_cons, List.not_mem_nil, or_false] at hv; rcases hv with rfl | rfl | rfl | rfl | rfl | rfl | rfl | rfl <;> rfl) k10 (by exact Nat.le_of_ble_eq_true rfl)) (fun v11 w11 h11 => ?_)
            obtain ⟨rfl, x11⟩ := h11
            replace k2 := k2.ch x11.ch (by omega)
            replace kS := kS.ch x11.ch (by first | omega | (omega))
            replace kL := kL.ch x11.ch (by first | omega | (intro q hq hm; have := dL q hq; omega))
            replace k10 := x11.blk.full rfl
            replace G := G.wr x11 (by first | exact .inr f10 | omega | (simp; omega)) nb10
            replace V4 := V4.wr x11 (by first | exact .inr f10 | omega | (simp; omega)) nb10
            replace hF := G.fz
            replace U := U.st x11 f10
            refine ⟨.inl rfl, ?_⟩
            refine tl3 0 2 3 (gS rfl (gS rfl (gS rfl (gS rfl (gS rfl (gS rfl (gS rfl (gS rfl (gS rfl (gS rfl (gS rfl (gS rfl (gS rfl g0))))))))))))) (gS rfl (gS rfl (gS rfl (gS rfl (gS rfl (gS rfl (gS rfl (gS rfl (gS rfl (gS rfl (gS rfl (gS rfl g0)))))))))))) g0 (fun g => ?_)
            exact ⟨g, _, _, _, _, rfl, V4, Nat.le_trans hu.size fS10, k10, nb10, n7, lv8, ⟨_, _, rfl⟩⟩
          · skip
            refine t_eff (by exact rfl) (e_alloc zr_98) (fun v12 w12 h12 => ?_)
            obtain ⟨b12, rfl, n12⟩ := h12
            have d2_12 : b2 < b12 := Nat.lt_of_lt_of_le k2.lt n12.fresh
            have f12 : w.heap.size ≤ b12 := Nat.le_trans U.size n12.fresh
            have nb12 := hF.nb n12.fresh
            have fS12 := Nat.le_trans SU.size n12.fresh
            have fV4_12 := Nat.le_trans V4.ch.size n12.fresh
            replace G := G.tr (Go.ofUp hF n12.up)
            replace V4 := V4.tr (Go.ofUp hF n12.up)
            replace hF := hF.up n12.up
            replace k2 := k2.up n12.up
            replace kS := kS.up n12.up
            replace kL := kL.up n12.up
            replace U := U.tr n12.up
            have k12 := n12.blk
            refine ⟨.inr (SU.tr n12.up), ?_⟩
            replace SU := SU.tr n12.up
            refine t_one ?_
            refine t_eff (by exact rfl) (e_callV cal_71 (aC (et (gS rfl (gS rfl g0)) rfl) aN) (yp_logsOf hF ((kL.mono hL0).rv hF) (Nat.le_refl _) (by omega) ch.logs)) (fun v13 w13 h13 => ?_)
            obtain ⟨H13, g13, lv13, ya, yn, rfl⟩ := h13
            have hlew13 := g13.le
            replace nb2 := g13.nb nb2 k2.lt
            replace nb12 := g13.nb nb12 k12.lt
            replace n7 := n7.mono hlew13
            replace hL0 := hL0.trans hlew13
            replace k2 := k2.up g13.up
            replace k12 := k12.up g13.up
            replace kS := kS.up g13.up
            replace kL := kL.up g13.up
            replace U := U.tr g13.up
            replace G := G.tr g13
            replace V4 := V4.tr g13
            replace hF := g13.fz
            refine ⟨.inr (SU.tr g13.up), ?_⟩
            replace SU := SU.tr g13.up
            have hb14 : ∀ w, (Instr.build 98 ([(3, (.slice na7 nn7 nc7)), (4, (.slice ya yn yn))] : List (Nat × Value)).toArray).run Hvaa.prog w = .ok (.agg ([[.slice none 0 0], [.slice none 0 0], [.slice none 0 0], ([(.slice na7 nn7 nc7)]), ([.slice ya yn yn]), [.slice none 0 0], [.slice none 0 0], [.slice none 0 0]] : List (List Value)).flatten.toArray) w := bld_run zr_98 plc_98 (fill_flat (off := 3) (k := 1) (f := [.slice none 0 0]) (c := [(.slice na7 nn7 nc7)]) (v := (.slice na7 nn7 nc7)) rfl rfl (by first | (simp [length_bL, length_be, length_uL]; done) | rfl) (by first | rfl | (simp [length_bL, length_be, length_uL]; done)) rfl (by first | (simp [length_bL, length_be, length_uL]; done) | rfl) (fill_flat (off := 4) (k := 1) (f := [.slice none 0 0]) (c := [.slice ya yn yn]) (v := (.slice ya yn yn)) rfl rfl (by first | (simp [length_bL, length_be, length_uL]; done) | rfl) (by first | (simp [length_bL, length_be, length_uL]; done) | rfl) rfl (by first | (simp [length_bL, length_be, length_uL]; done) | rfl) (fill_nil _ _)))
            refine t_step (by exact rfl) ((y_bld (bC (et (gS rfl (gS rfl g0)) rfl) (bC (et g0 rfl) bN)) hb14).to (congrArg (fun l : List Value => Value.agg l.toArray) (show _ = [.slice none 0 0, .slice none 0 0, .slice none 0 0, (.slice na7 nn7 nc7), .slice ya yn yn, .slice none 0 0, .slice none 0 0, .slice none 0 0] by simp))) ?_
            refine t_one ?_
            refine t_effN (by exact rfl) (e_store sz_98 (et (gS rfl (gS rfl g0)) rfl) (cellsV (et g0 rfl) rfl) rfl (by intro v hv; simp only [List.mem_cons, List.not_mem_nil, or_false] at hv; rcases hv with rfl | rfl | rfl | rfl | rfl | rfl | rfl | rfl <;> rfl) k12 (by exact Nat.le_of_ble_eq_true rfl)) (fun v15 w15 h15 => ?_)
            obtain ⟨rfl, x15⟩ := h15
            replace k2 := k2.ch x15.ch (by omega)
            replace kS := kS.ch x15.ch (by first | omega | (omega))
            replace kL := kL.ch x15.ch (by first | omega | (intro q hq hm; have := dL q hq; omega))
            replace k12 := x15.blk.full rfl
            replace G := G.wr x15 (by first | exact .inr f12 | omega | (simp; omega)) nb12
            replace V4 := V4.wr x15 (by first | exact .inr f12 | omega | (simp; omega)) nb12
            replace hF := G.fz
            replace U := U.st x15 f12
            refine ⟨.inl rfl, ?_⟩
            refine tl3 0 2 3 (gS rfl (gS rfl (gS rfl (gS rfl (gS rfl (gS rfl (gS rfl (gS rfl (gS rfl (gS rfl (gS rfl (gS rfl (gS rfl g0))))))))))))) (gS rfl (gS rfl (gS rfl (gS rfl (gS rfl (gS rfl (gS rfl (gS rfl (gS rfl (gS rfl (gS rfl (gS rfl g0)))))))))))) (gS rfl (gS rfl g0)) (fun g => ?_)
            exact ⟨g, _, _, _, _, rfl, V4, Nat.le_trans hu.size fS12, k12, nb12, n7, lv13, ⟨_, _, rfl⟩⟩
        · skip
          refine t_eff (by exact rfl) (e_alloc zr_98) (fun v16 w16 h16 => ?_)
          obtain ⟨b16, rfl, n16⟩ := h16
          have d2_16 : b2 < b16 := Nat.lt_of_lt_of_le k2.lt n16.fresh
          have f16 : w.heap.size ≤ b16 := Nat.le_trans U.size n16.fresh
          have nb16 := hF.nb n16.fresh
          have fS16 := Nat.le_trans SU.size n16.fresh
          have fV4_16 := Nat.le_trans V4.ch.size n16.fresh
          replace G := G.tr (Go.ofUp hF n16.up)
          replace V4 := V4.tr (Go.ofUp hF n16.up)
          replace hF := hF.up n16.up
          replace k2 := k2.up n16.up
          replace kS := kS.up n16.up
          replace kL := kL.up n16.up
          replace U := U.tr n16.up
          have k16 := n16.blk
          refine ⟨.inr (SU.tr n16.up), ?_⟩
          replace SU := SU.tr n16.up
          refine t_one ?_
          refine t_eff (by exact rfl) (e_callV cal_217 (aC (et (gS rfl (gS rfl (gS rfl (gS rfl (gS rfl g0))))) rfl) aN) (yp_natOf hF (hRf.mono hL0) (bd_up (bd_64 so.refund) (by decide)))) (fun v17 w17 h17 => ?_)
          obtain ⟨H17, g17, n17⟩ := h17
          have hlew17 := g17.le
          replace nb2 := g17.nb nb2 k2.lt
          replace nb16 := g17.nb nb16 k16.lt
          replace hL0 := hL0.trans hlew17
          replace k2 := k2.up g17.up
          replace k16 := k16.up g17.up
          replace kS := kS.up g17.up
          replace kL := kL.up g17.up
          replace U := U.tr g17.up
          replace G := G.tr g17
          replace V4 := V4.tr g17
          replace hF := g17.fz
          obtain ⟨na17, nn17, nc17, rfl⟩ := n17.sl
          refine ⟨.inr (SU.tr g17.up), ?_⟩
          replace SU := SU.tr g17.up
          refine t_one ?_
          refine t_eff (by exact rfl) (e_callV cal_71 (aC (et (gS rfl (gS rfl g0)) rfl) aN) (yp_logsOf hF ((kL.mono hL0).rv hF) (Nat.le_refl _) (by omega) ch.logs)) (fun v18 w18 h18 => ?_)
          obtain ⟨H18, g18, lv18, ya, yn, rfl⟩ := h18
          have hlew18 := g18.le
          replace nb2 := g18.nb nb2 k2.lt
          replace nb16 := g18.nb nb16 k16.lt
          replace n17 := n17.mono hlew18
          replace hL0 := hL0.trans hlew18
          replace k2 := k2.up g18.up
          replace k16 := k16.up g18.up
          replace kS := kS.up g18.up
          replace kL := kL.up g18.up
          replace U := U.tr g18.up
          replace G := G.tr g18
          replace V4 := V4.tr g18
          replace hF := g18.fz
          refine ⟨.inr (SU.tr g18.up), ?_⟩
          replace SU := SU.tr g18.up
          have hb19 : ∀ w, (Instr.build 98 ([(3, (.slice na17 nn17 nc17)), (4, (.slice ya yn yn))] : List (Nat × Value)).toArray).run Hvaa.prog w = .ok (.agg ([[.slice none 0 0], [.slice none 0 0], [.slice none 0 0], ([(.slice na17 nn17 nc17)]), ([.slice ya yn yn]), [.slice none 0 0], [.slice none 0 0], [.slice none 0 0]] : List (List Value)).flatten.toArray) w := bld_run zr_98 plc_98 (fill_flat (off := 3) (k := 1) (f := [.slice none 0 0]) (c := [(.slice na17 nn17 nc17)]) (v := (.slice na17 nn17 nc17)) rfl rfl (by first | (simp [length_bL, length_be, length_uL]; done) | rfl) (by first | rfl | (simp [length_bL, length_be, length_uL]; done)) rfl (by first | (simp [length_bL, length_be, length_uL]; done) | rfl) (fill_flat (off := 4) (k := 1) (f := [.slice none 0 0]) (c := [.slice ya yn yn]) (v := (.slice ya yn yn)) rfl rfl (by first | (simp [length_bL, length_be, length_uL]; done) | rfl) (by first | (simp [length_bL, length_be, length_uL]; done) | rfl) rfl (by first | (simp [length_bL, length_be, length_uL]; done) | rfl) (fill_nil _ _)))
          refine t_step (by exact rfl) ((y_bld (bC (et (gS rfl g0) rfl) (bC (et g0 rfl) bN)) hb19).to (congrArg (fun l : List Value => Value.agg l.toArray) (show _ = [.slice none 0 0, .slice none 0 0, .slice none 0 0, (.slice na17 nn17 nc17), .slice ya yn yn, .slice none 0 0, .slice none 0 0, .slice none 0 0] by simp))) ?_
          refine t_one ?_
          refine t_effN (by exact rfl) (e_store sz_98 (et (gS rfl (gS rfl (gS rfl g0))) rfl) (cellsV (et g0 rfl) rfl) rfl (by intro v hv; simp only [List.mem_cons, List.not_mem_nil, or_false] at hv; rcases hv with rfl | rfl | rfl | rfl | rfl | rfl | rfl | rfl <;> rfl) k16 (by exact Nat.le_of_ble_eq_true rfl)) (fun v20 w20 h20 => ?_)
          obtain ⟨rfl, x20⟩ := h20
          replace k2 := k2.ch x20.ch (by omega)
          replace kS := kS.ch x20.ch (by first | omega | (omega))
          replace kL := kL.ch x20.ch (by first | omega | (intro q hq hm; have := dL q hq; omega))
          replace k16 := x20.blk.full rfl
          replace G := G.wr x20 (by first | exact .inr f16 | omega | (simp; omega)) nb16
          replace V4 := V4.wr x20 (by first | exact .inr f16 | omega | (simp; omega)) nb16
          replace hF := G.fz
          replace U := U.st x20 f16
          refine ⟨.inl rfl, ?_⟩
          refine tl3 0 2 3 (gS rfl (gS rfl (gS rfl (gS rfl (gS rfl (gS rfl (gS rfl (gS rfl (gS rfl (gS rfl (gS rfl (gS rfl (gS rfl g0))))))))))))) (gS rfl (gS rfl (gS rfl (gS rfl (gS rfl (gS rfl (gS rfl (gS rfl (gS rfl (gS rfl (gS rfl (gS rfl g0)))))))))))) (gS rfl (gS rfl (gS rfl g0))) (fun g => ?_)
          exact ⟨g, _, _, _, _, rfl, V4, Nat.le_trans hu.size fS16, k16, nb16, n17, lv18, ⟨_, _, rfl⟩⟩
      intro s_ w21 hJ
      obtain ⟨g, b5, vr9, vl9, Hj4, rfl, V4, fn5, kn5, nb5, hvr9, hvl9, hfl9⟩ := hJ
      subst e0 e2
      have d2_5 : b2 < b5 := Nat.lt_of_lt_of_le k2.lt fn5
      have f5 : w.heap.size ≤ b5 := Nat.le_trans U.size fn5
      have hlew21 := V4.le
      replace nb2 := V4.nb nb2 k2.lt
      replace hL0 := hL0.trans hlew21
      replace k2 := k2.up V4.up
      replace kS := kS.up V4.up
      replace kL := kL.up V4.up
      replace U := U.tr V4.up
      replace G := G.tr V4
      replace hF := V4.fz
      have k5 := kn5
      obtain ⟨ra1, ra2, ra3, rfl⟩ := hvr9.sl
      obtain ⟨ya, yn, rfl⟩ := hfl9
      refine hK3 _ _ ?_
      refine c_seq (fun K22 hK22 => ?_)
      refine c_seq (fun K23 hK23 => ?_)
      exact (by
        refine c_region ?_
        refine l_step (y_moveV (et (gS rfl (gS rfl g0)) rfl)) ?_
        refine l_step (y_nil (et g0 rfl)) ?_
        refine l_step (y_fld fld_98_0 (et g0 rfl)) ?_
        refine l_step (y_load1 one_92 (et g0 rfl) (at1 (kS.cell (rS 0 _ rfl)))) ?_
        refine l_step (y_neqNS Hvaa.underlying92 (et g0 rfl) rfl) ?_
        refine l_nil ?_
        refine hK23 _ _ ?_
        refine fg4 0 2 3 28 (gS rfl (gS rfl (gS rfl (gS rfl (gS rfl (gS rfl (gS rfl g0))))))) (gS rfl (gS rfl (gS rfl (gS rfl (gS rfl (gS rfl g0)))))) (gS rfl (gS rfl (gS rfl (gS rfl (gS rfl g0))))) g0 (fun g => ?_)
        refine c_cond (et g0 rfl) (fun cB1 => ?_) (fun cB1 => ?_)
        · skip
          
          have hnB1 : aa ≠ none := fun e => by rw [e] at cB1; cases cB1
          exact (by
            refine c_region ?_
            refine l_step (y_moveV (et (gS rfl (gS rfl (gS rfl g0))) rfl)) ?_
            refine l_step (y_nil (et g0 rfl)) ?_
            refine l_step (y_fld fld_98_0 (et g0 rfl)) ?_
            refine l_step (y_load1 one_92 (et g0 rfl) (at1 (kS.cell (rS 0 _ rfl)))) ?_
            refine l_step (y_len Hvaa.underlying92 (et g0 rfl)) ?_
            refine l_eff (e_make Hvaa.underlying92 sz_107 zr_107 by_107 (et g0 rfl) (et g0 rfl) (by omega) (by omega)) (fun v25 w25 h25 => ?_)
            obtain ⟨b25, rfl, n25⟩ := h25
            have d2_25 : b2 < b25 := Nat.lt_of_lt_of_le k2.lt n25.fresh
            have d5_25 : b5 < b25 := Nat.lt_of_lt_of_le k5.lt n25.fresh
            have f25 : w.heap.size ≤ b25 := Nat.le_trans U.size n25.fresh
            have nb25 := hF.nb n25.fresh
            replace G := G.tr (Go.ofUp hF n25.up)
            replace hF := hF.up n25.up
            replace k2 := k2.up n25.up
            replace k5 := k5.up n25.up
            replace kS := kS.up n25.up
            replace kL := kL.up n25.up
            replace U := U.tr n25.up
            have k25 := n25.blk
            obtain ⟨rest0, hr0, k25⟩ := made_list k25
            refine l_step (y_fld fld_98_0 (et (gS rfl (gS rfl (gS rfl (gS rfl (gS rfl (gS rfl (gS rfl g0))))))) rfl)) ?_
            refine l_effN (e_store sz_92 (et g0 rfl) (cellsV (et (gS rfl g0) rfl) rfl) rfl (by first | exact one_bL _ | exact one_uL _ | (intro v hv; simp at hv; subst hv; rfl)) k5 (by first | exact Nat.le_of_ble_eq_true rfl | simp | omega)) (fun v26 w26 h26 => ?_)
            obtain ⟨rfl, x26⟩ := h26
            replace k2 := k2.ch x26.ch (by omega)
            replace k25 := k25.ch x26.ch (by omega)
            replace kS := kS.ch x26.ch (by first | omega | (omega))
            replace kL := kL.ch x26.ch (by first | omega | (intro q hq hm; have := dL q hq; omega))
            replace k5 := x26.blk
            replace G := G.wr x26 (by first | exact .inr f5 | omega | (simp; omega)) nb5
            replace hF := G.fz
            replace U := U.st x26 f5
            replace k5 : Blk w26 b5 [.slice (some ⟨b25, 0, none⟩) s.now.accts.length s.now.accts.length, .slice none 0 0, .slice none 0 0, .slice ra1 ra2 ra3, .slice ya yn yn, .slice none 0 0, .slice none 0 0, .slice none 0 0].toArray := k5
            refine l_nil ?_
            refine hK22 _ _ ?_
            refine fg3 0 2 3 (gS rfl (gS rfl (gS rfl (gS rfl (gS rfl (gS rfl (gS rfl (gS rfl (gS rfl (gS rfl g0)))))))))) (gS rfl (gS rfl (gS rfl (gS rfl (gS rfl (gS rfl (gS rfl (gS rfl (gS rfl g0))))))))) (gS rfl (gS rfl (gS rfl (gS rfl (gS rfl (gS rfl (gS rfl (gS rfl g0)))))))) (fun g => ?_)
            refine c_seq (fun K27 hK27 => ?_)
            refine c_seq (fun K28 hK28 => ?_)
            exact (by
              refine c_region ?_
              refine l_step (y_moveV (et (gS rfl (gS rfl g0)) rfl)) ?_
              refine l_step (y_nil (et g0 rfl)) ?_
              refine l_step (y_fld fld_98_0 (et g0 rfl)) ?_
              refine l_step (y_load1 one_92 (et g0 rfl) (at1 (kS.cell (rS 0 _ rfl)))) ?_
              refine l_step (y_len Hvaa.underlying92 (et g0 rfl)) ?_
              refine l_step y_moveC ?_
              refine l_nil ?_
              refine hK28 _ _ ?_
              refine fg6 0 2 3 39 40 41 (gS rfl (gS rfl (gS rfl (gS rfl (gS rfl (gS rfl (gS rfl (gS rfl g0)))))))) (gS rfl (gS rfl (gS rfl (gS rfl (gS rfl (gS rfl (gS rfl g0))))))) (gS rfl (gS rfl (gS rfl (gS rfl (gS rfl (gS rfl g0)))))) (gS rfl (gS rfl g0)) (gS rfl g0) g0 (fun g => ?_)
              refine c_block (fun Q29 hQ29 => ?_)
              refine fg6 0 2 3 39 40 41 (gS rfl (gS rfl (gS rfl (gS rfl (gS rfl g0))))) (gS rfl (gS rfl (gS rfl (gS rfl g0)))) (gS rfl (gS rfl (gS rfl g0))) (gS rfl (gS rfl g0)) (gS rfl g0) g0 (fun g => ?_)
              refine c_loop (fun k_ s_ W30 => ∃ (g : Nat → Value) (Hk30 : Store) (cs : List (List Value)) (rest : List Value) (i : Nat), s_ = (upd (upd (upd (upd (upd (upd g 0 (.pointer (some ⟨bs, 0, none⟩))) 2 (.pointer (some ⟨b2, 0, none⟩))) 3 (.pointer (some ⟨b5, 0, none⟩))) 39 (.slice aa s.now.accts.length ac)) 40 (.int .i64 (s.now.accts.length : Nat))) 41 (.int .i64 (i : Nat))) ∧ s.now.accts.length - i = k_ ∧ (i ≤ s.now.accts.length) ∧ (cs.length = i) ∧ (rest.length = (s.now.accts.length - i) * 24) ∧ (CP P_acct 24 Hk30 cs s.now.accts) ∧ Blk W30 b25 ((cs.flatten ++ rest).toArray) ∧ Go (fun k => k = b25) w26 Hj4 W30 Hk30) (s.now.accts.length - (0)) ?_ ?_
              · exact ⟨g, _, [], rest0, 0, rfl, rfl, Nat.zero_le _, rfl, by rw [hr0, Nat.sub_zero], CP.nil _ _ _ _, k25, Go.refl hF⟩
              · skip
                intro k_ s_ W30 hI K30 hK30
                obtain ⟨g, Hk30, cs, rest, i, rfl, rfl, hi, hcl, hrl, hcp, nk25, V30⟩ := hI
                have hle30 := V30.le
                replace nb2 := V30.nb nb2 k2.lt
                replace nb5 := V30.nb nb5 k5.lt
                replace nb25 := V30.nb nb25 k25.lt
                replace hvr9 := hvr9.mono hle30
                replace hvl9 := hvl9.mono hle30
                replace hL0 := hL0.trans hle30
                replace G := G.trans V30 (by intro b hb; first | exact hb.elim | omega | (simp at hb ⊢; omega))
                replace hF := V30.fz
                replace k2 := k2.ch V30.ch (by omega)
                replace k5 := k5.ch V30.ch (by omega)
                replace kS := kS.ch V30.ch (by omega)
                replace kL := kL.ch V30.ch (by intro q hq hm; have := dL q hq; omega)
                replace k25 := nk25
                replace U := U.cc V30.ch (by intro b hb; first | exact hb.elim | omega | (simp at hb ⊢; omega))
                refine c_seq (fun K31 hK31 => ?_)
                exact (by
                  refine c_region ?_
                  refine l_step (y_lss (et g0 rfl) (et (gS rfl g0) rfl)) ?_
                  refine l_nil ?_
                  refine hK31 _ _ ?_
                  refine c_seq (fun K32 hK32 => ?_)
                  refine c_cond (et g0 rfl) (fun cB2 => ?_) (fun cB2 => ?_)
                  · skip
                    
                    have hil : i < s.now.accts.length := by have := of_decide_eq_true cB2; omega
                    refine c_skip ?_
                    refine hK32 _ _ ?_
                    refine fg6 0 2 3 39 40 41 (gS rfl (gS rfl (gS rfl (gS rfl (gS rfl (gS rfl g0)))))) (gS rfl (gS rfl (gS rfl (gS rfl (gS rfl g0))))) (gS rfl (gS rfl (gS rfl (gS rfl g0)))) (gS rfl (gS rfl (gS rfl g0))) (gS rfl (gS rfl g0)) (gS rfl g0) (fun g => ?_)
                    refine c_seq (fun K34 hK34 => ?_)
                    refine c_block (fun Q35 hQ35 => ?_)
                    refine c_seq (fun K36 hK36 => ?_)
                    exact (by
                      refine c_region ?_
                      refine l_step (y_moveV (et g0 rfl)) ?_
                      have hF0 := hF.of hL0
                      obtain ⟨bq, oq, r, ha0, hrow, hrr, vn, vb, vc, vs, hr1, hal, hvn, hvb, hvc, hvs, hbn, hbb, hbc⟩ := hAc.row hF0 (i := i) hil
                      rw [hr1] at hrow hrr
                      obtain ⟨na1, na2, na3, rfl⟩ := hvn.sl
                      obtain ⟨nb1_, nb2_, nb3_, rfl⟩ := hvb.sl
                      obtain ⟨da, dc, rfl, hdl⟩ := hvc.sv.val
                      obtain ⟨ea, ec, rfl, hel, hec⟩ := hvs.val
                      have hsl := ch.slots _ (List.getElem_mem (show i < s.now.accts.length by omega))
                      refine l_step (y_idxSa ha0 Hvaa.underlying92 sz_107 (et (gS rfl (gS rfl (gS rfl g0))) rfl) (et (gS rfl g0) rfl) ?_) ?_
                      omega
                      refine l_step (y_loadR agg_107 sz_107 (et g0 rfl) len24 (at1R hrow)) ?_
                      refine l_eff (e_alloc zr_107) (fun v37 w37 h37 => ?_)
                      obtain ⟨b37, rfl, n37⟩ := h37
                      have d2_37 : b2 < b37 := Nat.lt_of_lt_of_le k2.lt n37.fresh
                      have d5_37 : b5 < b37 := Nat.lt_of_lt_of_le k5.lt n37.fresh
                      have d25_37 : b25 < b37 := Nat.lt_of_lt_of_le k25.lt n37.fresh
                      have f37 : w.heap.size ≤ b37 := Nat.le_trans U.size n37.fresh
                      have nb37 := hF.nb n37.fresh
                      have fV30_37 := Nat.le_trans V30.ch.size n37.fresh
                      replace G := G.tr (Go.ofUp hF n37.up)
                      replace V30 := V30.tr (Go.ofUp hF n37.up)
                      replace hF := hF.up n37.up
                      replace k2 := k2.up n37.up
                      replace k5 := k5.up n37.up
                      replace k25 := k25.up n37.up
                      replace kS := kS.up n37.up
                      replace kL := kL.up n37.up
                      replace U := U.tr n37.up
                      have k37 := n37.blk
                      exact (by
                        refine l_step (y_assignV (et (gS rfl (gS rfl (gS rfl g0))) rfl)) ?_
                        refine l_effN (e_store sz_107 (et (gS rfl g0) rfl) (cellsV (et (gS rfl (gS rfl g0)) rfl) rfl) len24 (by exact one_app (one_four rfl rfl rfl rfl)) k37 (by exact Nat.le_of_ble_eq_true rfl)) (fun v38 w38 h38 => ?_)
                        obtain ⟨rfl, x38⟩ := h38
                        replace k2 := k2.ch x38.ch (by omega)
                        replace k5 := k5.ch x38.ch (by omega)
                        replace k25 := k25.ch x38.ch (by omega)
                        replace kS := kS.ch x38.ch (by first | omega | (omega))
                        replace kL := kL.ch x38.ch (by first | omega | (intro q hq hm; have := dL q hq; omega))
                        replace k37 := x38.blk.full (by rw [len24]; rfl)
                        replace G := G.wr x38 (by first | exact .inr f37 | omega | (simp; omega)) nb37
                        replace V30 := V30.wr x38 (by first | exact .inr f37 | omega | (simp; omega)) nb37
                        replace hF := G.fz
                        replace U := U.st x38 f37
                        refine l_nil ?_
                        refine hK36 _ _ ?_
                        refine fg8 0 2 3 39 40 41 5 4 (gS rfl (gS rfl (gS rfl (gS rfl (gS rfl (gS rfl (gS rfl (gS rfl (gS rfl (gS rfl g0)))))))))) (gS rfl (gS rfl (gS rfl (gS rfl (gS rfl (gS rfl (gS rfl (gS rfl (gS rfl g0))))))))) (gS rfl (gS rfl (gS rfl (gS rfl (gS rfl (gS rfl (gS rfl (gS rfl g0)))))))) (gS rfl (gS rfl (gS rfl (gS rfl (gS rfl (gS rfl (gS rfl g0))))))) (gS rfl (gS rfl (gS rfl (gS rfl (gS rfl (gS rfl g0)))))) (gS rfl (gS rfl (gS rfl (gS rfl (gS rfl g0))))) (gS rfl g0) g0 (fun g => ?_)
                        refine c_seq (fun K39 hK39 => ?_)
                        exact (by
                          refine fgv8 0 2 3 4 5 39 40 41 (gS rfl (gS rfl (gS rfl (gS rfl (gS rfl (gS rfl (gS rfl g0))))))) (gS rfl (gS rfl (gS rfl (gS rfl (gS rfl (gS rfl g0)))))) (gS rfl (gS rfl (gS rfl (gS rfl (gS rfl g0))))) g0 (gS rfl g0) (gS rfl (gS rfl (gS rfl (gS rfl g0)))) (gS rfl (gS rfl (gS rfl g0))) (gS rfl (gS rfl g0)) (fun g z0 z2 z3 z4 z5 z39 z40 z41 e0 e2 e3 e4 e5 e39 e40 e41 => ?_)
                          refine c_drawJ (fun s_ w_ => ∃ (g : Nat → Value) (b41 : Nat) (vn9 vb9 vc9 : Value) (Hj40 : Store), s_ = (upd (upd (upd (upd (upd (upd (upd (upd (upd g 0 z0) 2 z2) 3 z3) 4 z4) 5 z5) 6 (.pointer (some ⟨b41, 0, none⟩))) 39 z39) 40 z40) 41 z41) ∧ Go No w38 Hk30 w_ Hj40 ∧ w38.heap.size ≤ b41 ∧ Blk w_ b41 ((bL (be 20 s.now.accts[i].addr) ++ [vn9, vb9, vc9, .slice none 0 0]).toArray) ∧ ¬ Hj40.has b41 ∧ (NV Hj40 vn9 s.now.accts[i].nonce) ∧ (NV Hj40 vb9 s.now.accts[i].bal) ∧ (BV Hj40 vc9 s.now.accts[i].code)) Up 13 (.pure 0 (.pure 1 (.pure 2 (.pure 3 (.pure 5 (.pure 6 (.pure 8 (.pure 9 (.two 4 (.two 7 (.two 10 (.pure 11 (.eff 12 (.eff 13 .fin))) 12 (.eff 10 (.pure 11 (.eff 13 .fin)))) 12 (.eff 7 (.eff 10 (.pure 11 (.eff 13 .fin))))) 12 (.eff 4 (.eff 7 (.eff 10 (.pure 11 (.eff 13 .fin)))))))))))))) (by kernel_rfl) (fun w42 hu => ⟨Up.refl _, ?_⟩) ?_
                          · skip
                            subst e0 e2 e3 e4 e5 e39 e40 e41
                            replace G := G.tr (Go.ofUp hF hu)
                            replace V30 := V30.tr (Go.ofUp hF hu)
                            replace hF := hF.up hu
                            replace k2 := k2.up hu
                            replace k5 := k5.up hu
                            replace k25 := k25.up hu
                            replace k37 := k37.up hu
                            replace kS := kS.up hu
                            replace kL := kL.up hu
                            replace U := U.tr hu
                            have SU := Up.refl w42
                            have V40 : Go No w38 Hk30 w42 Hk30 := ⟨hu, hF, Le.refl _, fun _ h => .inl h⟩
                            refine t_step (by exact rfl) (y_fld fld_107_0 (et (gS rfl (gS rfl (gS rfl g0))) rfl)) ?_
                            refine t_step (by exact rfl) (y_loadR agg_25 sz_25 (et g0 rfl) (by rw [length_bL, length_be]) (atSR (k37.row addr_row))) ?_
                            refine t_step (by exact rfl) (y_fld fld_107_1 (et (gS rfl (gS rfl (gS rfl (gS rfl (gS rfl g0))))) rfl)) ?_
                            refine t_step (by exact rfl) (y_load1 one_95 (et g0 rfl) (atS (k37.cell ((app20 (i := 0) rfl).trans rfl)))) ?_
                            refine t_step (by exact rfl) (y_fld fld_107_2 (et (gS rfl (gS rfl (gS rfl (gS rfl (gS rfl (gS rfl (gS rfl g0))))))) rfl)) ?_
                            refine t_step (by exact rfl) (y_load1 one_95 (et g0 rfl) (atS (k37.cell ((app20 (i := 1) rfl).trans rfl)))) ?_
                            refine t_step (by exact rfl) (y_fld fld_107_3 (et (gS rfl (gS rfl (gS rfl (gS rfl (gS rfl (gS rfl (gS rfl (gS rfl (gS rfl g0))))))))) rfl)) ?_
                            refine t_step (by exact rfl) (y_load1 one_38 (et g0 rfl) (atS (k37.cell ((app20 (i := 2) rfl).trans rfl)))) ?_
                            refine t_two ?_ ?_
                            · skip
                              refine t_eff (by exact rfl) (e_callV cal_217 (aC (et (gS rfl (gS rfl (gS rfl (gS rfl g0)))) rfl) aN) (yp_natOf hF (hvn.mono hL0) (bd_up (bd_64 hbn) (by decide)))) (fun v43 w43 h43 => ?_)
                              obtain ⟨H43, g43, n43⟩ := h43
                              have hlew43 := g43.le
                              replace nb2 := g43.nb nb2 k2.lt
                              replace nb5 := g43.nb nb5 k5.lt
                              replace nb25 := g43.nb nb25 k25.lt
                              replace nb37 := g43.nb nb37 k37.lt
                              replace hvr9 := hvr9.mono hlew43
                              replace hvl9 := hvl9.mono hlew43
                              replace hcp := hcp.mono hlew43
                              replace hL0 := hL0.trans hlew43
                              replace k2 := k2.up g43.up
                              replace k5 := k5.up g43.up
                              replace k25 := k25.up g43.up
                              replace k37 := k37.up g43.up
                              replace kS := kS.up g43.up
                              replace kL := kL.up g43.up
                              replace U := U.tr g43.up
                              replace G := G.tr g43
                              replace V30 := V30.tr g43
                              replace V40 := V40.tr g43
                              replace hF := g43.fz
                              obtain ⟨na43, nn43, nc43, rfl⟩ := n43.sl
                              refine ⟨.inr (SU.tr g43.up), ?_⟩
                              replace SU := SU.tr g43.up
                              refine t_two ?_ ?_
                              · skip
                                refine t_eff (by exact rfl) (e_callV cal_217 (aC (et (gS rfl (gS rfl (gS rfl g0))) rfl) aN) (yp_natOf hF (hvb.mono hL0) (bd_up (bd_W hbb) (by decide)))) (fun v44 w44 h44 => ?_)
                                obtain ⟨H44, g44, n44⟩ := h44
                                have hlew44 := g44.le
                                replace nb2 := g44.nb nb2 k2.lt
                                replace nb5 := g44.nb nb5 k5.lt
                                replace nb25 := g44.nb nb25 k25.lt
                                replace nb37 := g44.nb nb37 k37.lt
                                replace hvr9 := hvr9.mono hlew44
                                replace hvl9 := hvl9.mono hlew44
                                replace hcp := hcp.mono hlew44
                                replace n43 := n43.mono hlew44
                                replace hL0 := hL0.trans hlew44
                                replace k2 := k2.up g44.up
                                replace k5 := k5.up g44.up
                                replace k25 := k25.up g44.up
                                replace k37 := k37.up g44.up
                                replace kS := kS.up g44.up
                                replace kL := kL.up g44.up
                                replace U := U.tr g44.up
                                replace G := G.tr g44
                                replace V30 := V30.tr g44
                                replace V40 := V40.tr g44
                                replace hF := g44.fz
                                obtain ⟨na44, nn44, nc44, rfl⟩ := n44.sl
                                refine ⟨.inr (SU.tr g44.up), ?_⟩
                                replace SU := SU.tr g44.up
                                refine t_two ?_ ?_
                                · skip
                                  refine t_eff (by exact rfl) (e_callV cal_26 (aC (et (gS rfl (gS rfl g0)) rfl) aN) (yp_bytes hF (hvc.mono hL0) (by omega))) (fun v45 w45 h45 => ?_)
                                  obtain ⟨H45, g45, b45⟩ := h45
                                  have hlew45 := g45.le
                                  replace nb2 := g45.nb nb2 k2.lt
                                  replace nb5 := g45.nb nb5 k5.lt
                                  replace nb25 := g45.nb nb25 k25.lt
                                  replace nb37 := g45.nb nb37 k37.lt
                                  replace hvr9 := hvr9.mono hlew45
                                  replace hvl9 := hvl9.mono hlew45
                                  replace hcp := hcp.mono hlew45
                                  replace n43 := n43.mono hlew45
                                  replace n44 := n44.mono hlew45
                                  replace hL0 := hL0.trans hlew45
                                  replace k2 := k2.up g45.up
                                  replace k5 := k5.up g45.up
                                  replace k25 := k25.up g45.up
                                  replace k37 := k37.up g45.up
                                  replace kS := kS.up g45.up
                                  replace kL := kL.up g45.up
                                  replace U := U.tr g45.up
                                  replace G := G.tr g45
                                  replace V30 := V30.tr g45
                                  replace V40 := V40.tr g45
                                  replace hF := g45.fz
                                  obtain ⟨za, zc, rfl, hzl⟩ := b45.sv.val
                                  refine ⟨.inr (SU.tr g45.up), ?_⟩
                                  replace SU := SU.tr g45.up
                                  have hb46 : ∀ w, (Instr.build 107 ([(0, (Value.agg (bL (be 20 s.now.accts[i].addr)).toArray)), (1, (.slice na43 nn43 nc43)), (2, (.slice na44 nn44 nc44)), (3, (.slice za s.now.accts[i].code.length zc))] : List (Nat × Value)).toArray).run Hvaa.prog w = .ok (.agg ([(bL (be 20 s.now.accts[i].addr)), ([(.slice na43 nn43 nc43)]), ([(.slice na44 nn44 nc44)]), ([.slice za s.now.accts[i].code.length zc]), [.slice none 0 0]] : List (List Value)).flatten.toArray) w := bld_run zr_107 plc_107 (fill_flat (off := 0) (k := 20) (f := (List.replicate 20 (.int .u8 0))) (c := bL (be 20 s.now.accts[i].addr)) (v := (Value.agg (bL (be 20 s.now.accts[i].addr)).toArray)) rfl rfl (by first | (simp [length_bL, length_be, length_uL]; done) | rfl) (by first | rfl | (simp [length_bL, length_be, length_uL]; done)) rfl (by first | (simp [length_bL, length_be, length_uL]; done) | rfl) (fill_flat (off := 20) (k := 1) (f := [.slice none 0 0]) (c := [(.slice na43 nn43 nc43)]) (v := (.slice na43 nn43 nc43)) rfl rfl (by first | (simp [length_bL, length_be, length_uL]; done) | rfl) (by first | (simp [length_bL, length_be, length_uL]; done) | rfl) rfl (by first | (simp [length_bL, length_be, length_uL]; done) | rfl) (fill_flat (off := 21) (k := 1) (f := [.slice none 0 0]) (c := [(.slice na44 nn44 nc44)]) (v := (.slice na44 nn44 nc44)) rfl rfl (by first | (simp [length_bL, length_be, length_uL]; done) | rfl) (by first | (simp [length_bL, length_be, length_uL]; done) | rfl) rfl (by first | (simp [length_bL, length_be, length_uL]; done) | rfl) (fill_flat (off := 22) (k := 1) (f := [.slice none 0 0]) (c := [.slice za s.now.accts[i].code.length zc]) (v := (.slice za s.now.accts[i].code.length zc)) rfl rfl (by first | (simp [length_bL, length_be, length_uL]; done) | rfl) (by first | (simp [length_bL, length_be, length_uL]; done) | rfl) rfl (by first | (simp [length_bL, length_be, length_uL]; done) | rfl) (fill_nil _ _)))))
                                  refine t_step (by exact rfl) ((y_bld (bC (et (gS rfl (gS rfl (gS rfl (gS rfl (gS rfl (gS rfl (gS rfl (gS rfl (gS rfl g0))))))))) rfl) (bC (et (gS rfl (gS rfl g0)) rfl) (bC (et (gS rfl g0) rfl) (bC (et g0 rfl) bN)))) hb46).to (congrArg (fun l : List Value => Value.agg l.toArray) (show _ = bL (be 20 s.now.accts[i].addr) ++ [(.slice na43 nn43 nc43), (.slice na44 nn44 nc44), .slice za s.now.accts[i].code.length zc, .slice none 0 0] by simp))) ?_
                                  refine t_one ?_
                                  refine t_eff (by exact rfl) (e_alloc zr_107) (fun v47 w47 h47 => ?_)
                                  obtain ⟨b47, rfl, n47⟩ := h47
                                  have d2_47 : b2 < b47 := Nat.lt_of_lt_of_le k2.lt n47.fresh
                                  have d5_47 : b5 < b47 := Nat.lt_of_lt_of_le k5.lt n47.fresh
                                  have d25_47 : b25 < b47 := Nat.lt_of_lt_of_le k25.lt n47.fresh
                                  have d37_47 : b37 < b47 := Nat.lt_of_lt_of_le k37.lt n47.fresh
                                  have f47 : w.heap.size ≤ b47 := Nat.le_trans U.size n47.fresh
                                  have nb47 := hF.nb n47.fresh
                                  have fS47 := Nat.le_trans SU.size n47.fresh
                                  have fV30_47 := Nat.le_trans V30.ch.size n47.fresh
                                  have fV40_47 := Nat.le_trans V40.ch.size n47.fresh
                                  replace G := G.tr (Go.ofUp hF n47.up)
                                  replace V30 := V30.tr (Go.ofUp hF n47.up)
                                  replace V40 := V40.tr (Go.ofUp hF n47.up)
                                  replace hF := hF.up n47.up
                                  replace k2 := k2.up n47.up
                                  replace k5 := k5.up n47.up
                                  replace k25 := k25.up n47.up
                                  replace k37 := k37.up n47.up
                                  replace kS := kS.up n47.up
                                  replace kL := kL.up n47.up
                                  replace U := U.tr n47.up
                                  have k47 := n47.blk
                                  refine ⟨.inr (SU.tr n47.up), ?_⟩
                                  replace SU := SU.tr n47.up
                                  refine t_one ?_
                                  refine t_effN (by exact rfl) (e_store sz_107 (et g0 rfl) (cellsV (et (gS rfl g0) rfl) rfl) len24 (by exact one_app (one_four rfl rfl rfl rfl)) k47 (by exact Nat.le_of_ble_eq_true rfl)) (fun v48 w48 h48 => ?_)
                                  obtain ⟨rfl, x48⟩ := h48
                                  replace k2 := k2.ch x48.ch (by omega)
                                  replace k5 := k5.ch x48.ch (by omega)
                                  replace k25 := k25.ch x48.ch (by omega)
                                  replace k37 := k37.ch x48.ch (by omega)
                                  replace kS := kS.ch x48.ch (by first | omega | (omega))
                                  replace kL := kL.ch x48.ch (by first | omega | (intro q hq hm; have := dL q hq; omega))
                                  replace k47 := x48.blk.full (by rw [len24]; rfl)
                                  replace G := G.wr x48 (by first | exact .inr f47 | omega | (simp; omega)) nb47
                                  replace V30 := V30.wr x48 (by first | exact .inr f47 | omega | (simp; omega)) nb47
                                  replace V40 := V40.wr x48 (by first | exact .inr f47 | omega | (simp; omega)) nb47
                                  replace hF := G.fz
                                  replace U := U.st x48 f47
                                  refine ⟨.inl rfl, ?_⟩
                                  refine tl9 0 2 3 4 5 6 39 40 41 (gS rfl (gS rfl (gS rfl (gS rfl (gS rfl (gS rfl (gS rfl (gS rfl (gS rfl (gS rfl (gS rfl (gS rfl (gS rfl (gS rfl (gS rfl (gS rfl (gS rfl (gS rfl (gS rfl (gS rfl g0)))))))))))))))))))) (gS rfl (gS rfl (gS rfl (gS rfl (gS rfl (gS rfl (gS rfl (gS rfl (gS rfl (gS rfl (gS rfl (gS rfl (gS rfl (gS rfl (gS rfl (gS rfl (gS rfl (gS rfl (gS rfl g0))))))))))))))))))) (gS rfl (gS rfl (gS rfl (gS rfl (gS rfl (gS rfl (gS rfl (gS rfl (gS rfl (gS rfl (gS rfl (gS rfl (gS rfl (gS rfl (gS rfl (gS rfl (gS rfl (gS rfl g0)))))))))))))))))) (gS rfl (gS rfl (gS rfl (gS rfl (gS rfl (gS rfl (gS rfl (gS rfl (gS rfl (gS rfl (gS rfl (gS rfl (gS rfl (gS rfl (gS rfl (gS rfl (gS rfl g0))))))))))))))))) (gS rfl (gS rfl (gS rfl (gS rfl (gS rfl (gS rfl (gS rfl (gS rfl (gS rfl (gS rfl (gS rfl (gS rfl (gS rfl (gS rfl (gS rfl (gS rfl g0)))))))))))))))) g0 (gS rfl (gS rfl (gS rfl (gS rfl (gS rfl (gS rfl (gS rfl (gS rfl (gS rfl (gS rfl (gS rfl (gS rfl (gS rfl (gS rfl (gS rfl g0))))))))))))))) (gS rfl (gS rfl (gS rfl (gS rfl (gS rfl (gS rfl (gS rfl (gS rfl (gS rfl (gS rfl (gS rfl (gS rfl (gS rfl (gS rfl g0)))))))))))))) (gS rfl (gS rfl (gS rfl (gS rfl (gS rfl (gS rfl (gS rfl (gS rfl (gS rfl (gS rfl (gS rfl (gS rfl (gS rfl g0))))))))))))) (fun g => ?_)
                                  exact ⟨g, _, _, _, _, _, rfl, V40, Nat.le_trans hu.size fS47, k47, nb47, n43, n44, b45⟩
                                · skip
                                  refine t_eff (by exact rfl) (e_alloc zr_107) (fun v49 w49 h49 => ?_)
                                  obtain ⟨b49, rfl, n49⟩ := h49
                                  have d2_49 : b2 < b49 := Nat.lt_of_lt_of_le k2.lt n49.fresh
                                  have d5_49 : b5 < b49 := Nat.lt_of_lt_of_le k5.lt n49.fresh
                                  have d25_49 : b25 < b49 := Nat.lt_of_lt_of_le k25.lt n49.fresh
                                  have d37_49 : b37 < b49 := Nat.lt_of_lt_of_le k37.lt n49.fresh
                                  have f49 : w.heap.size ≤ b49 := Nat.le_trans U.size n49.fresh
                                  have nb49 := hF.nb n49.fresh
                                  have fS49 := Nat.le_trans SU.size n49.fresh
                                  have fV30_49 := Nat.le_trans V30.ch.size n49.fresh
                                  have fV40_49 := Nat.le_trans V40.ch.size n49.fresh
                                  replace G := G.tr (Go.ofUp hF n49.up)
                                  replace V30 := V30.tr (Go.ofUp hF n49.up)
                                  replace V40 := V40.tr (Go.ofUp hF n49.up)
                                  replace hF := hF.up n49.up
                                  replace k2 := k2.up n49.up
                                  replace k5 := k5.up n49.up
                                  replace k25 := k25.up n49.up
                                  replace k37 := k37.up n49.up
                                  replace kS := kS.up n49.up
                                  replace kL := kL.up n49.up
                                  replace U := U.tr n49.up
                                  have k49 := n49.blk
                                  refine ⟨.inr (SU.tr n49.up), ?_⟩
                                  replace SU := SU.tr n49.up
                                  refine t_one ?_
                                  refine t_eff (by exact rfl) (e_callV cal_26 (aC (et (gS rfl (gS rfl (gS rfl g0))) rfl) aN) (yp_bytes hF (hvc.mono hL0) (by omega))) (fun v50 w50 h50 => ?_)
                                  obtain ⟨H50, g50, b50⟩ := h50
                                  have hlew50 := g50.le
                                  replace nb2 := g50.nb nb2 k2.lt
                                  replace nb5 := g50.nb nb5 k5.lt
                                  replace nb25 := g50.nb nb25 k25.lt
                                  replace nb37 := g50.nb nb37 k37.lt
                                  replace nb49 := g50.nb nb49 k49.lt
                                  replace hvr9 := hvr9.mono hlew50
                                  replace hvl9 := hvl9.mono hlew50
                                  replace hcp := hcp.mono hlew50
                                  replace n43 := n43.mono hlew50
                                  replace n44 := n44.mono hlew50
                                  replace hL0 := hL0.trans hlew50
                                  replace k2 := k2.up g50.up
                                  replace k5 := k5.up g50.up
                                  replace k25 := k25.up g50.up
                                  replace k37 := k37.up g50.up
                                  replace k49 := k49.up g50.up
                                  replace kS := kS.up g50.up
                                  replace kL := kL.up g50.up
                                  replace U := U.tr g50.up
                                  replace G := G.tr g50
                                  replace V30 := V30.tr g50
                                  replace V40 := V40.tr g50
                                  replace hF := g50.fz
                                  obtain ⟨za, zc, rfl, hzl⟩ := b50.sv.val
                                  refine ⟨.inr (SU.tr g50.up), ?_⟩
                                  replace SU := SU.tr g50.up
                                  have hb51 : ∀ w, (Instr.build 107 ([(0, (Value.agg (bL (be 20 s.now.accts[i].addr)).toArray)), (1, (.slice na43 nn43 nc43)), (2, (.slice na44 nn44 nc44)), (3, (.slice za s.now.accts[i].code.length zc))] : List (Nat × Value)).toArray).run Hvaa.prog w = .ok (.agg ([(bL (be 20 s.now.accts[i].addr)), ([(.slice na43 nn43 nc43)]), ([(.slice na44 nn44 nc44)]), ([.slice za s.now.accts[i].code.length zc]), [.slice none 0 0]] : List (List Value)).flatten.toArray) w := bld_run zr_107 plc_107 (fill_flat (off := 0) (k := 20) (f := (List.replicate 20 (.int .u8 0))) (c := bL (be 20 s.now.accts[i].addr)) (v := (Value.agg (bL (be 20 s.now.accts[i].addr)).toArray)) rfl rfl (by first | (simp [length_bL, length_be, length_uL]; done) | rfl) (by first | rfl | (simp [length_bL, length_be, length_uL]; done)) rfl (by first | (simp [length_bL, length_be, length_uL]; done) | rfl) (fill_flat (off := 20) (k := 1) (f := [.slice none 0 0]) (c := [(.slice na43 nn43 nc43)]) (v := (.slice na43 nn43 nc43)) rfl rfl (by first | (simp [length_bL, length_be, length_uL]; done) | rfl) (by first | (simp [length_bL, length_be, length_uL]; done) | rfl) rfl (by first | (simp [length_bL, length_be, length_uL]; done) | rfl) (fill_flat (off := 21) (k := 1) (f := [.slice none 0 0]) (c := [(.slice na44 nn44 nc44)]) (v := (.slice na44 nn44 nc44)) rfl rfl (by first | (simp [length_bL, length_be, length_uL]; done) | rfl) (by first | (simp [length_bL, length_be, length_uL]; done) | rfl) rfl (by first | (simp [length_bL, length_be, length_uL]; done) | rfl) (fill_flat (off := 22) (k := 1) (f := [.slice none 0 0]) (c := [.slice za s.now.accts[i].code.length zc]) (v := (.slice za s.now.accts[i].code.length zc)) rfl rfl (by first | (simp [length_bL, length_be, length_uL]; done) | rfl) (by first | (simp [length_bL, length_be, length_uL]; done) | rfl) rfl (by first | (simp [length_bL, length_be, length_uL]; done) | rfl) (fill_nil _ _)))))
                                  refine t_step (by exact rfl) ((y_bld (bC (et (gS rfl (gS rfl (gS rfl (gS rfl (gS rfl (gS rfl (gS rfl (gS rfl (gS rfl (gS rfl g0)))))))))) rfl) (bC (et (gS rfl (gS rfl (gS rfl g0))) rfl) (bC (et (gS rfl (gS rfl g0)) rfl) (bC (et g0 rfl) bN)))) hb51).to (congrArg (fun l : List Value => Value.agg l.toArray) (show _ = bL (be 20 s.now.accts[i].addr) ++ [(.slice na43 nn43 nc43), (.slice na44 nn44 nc44), .slice za s.now.accts[i].code.length zc, .slice none 0 0] by simp))) ?_
                                  refine t_one ?_
                                  refine t_effN (by exact rfl) (e_store sz_107 (et (gS rfl (gS rfl g0)) rfl) (cellsV (et g0 rfl) rfl) len24 (by exact one_app (one_four rfl rfl rfl rfl)) k49 (by exact Nat.le_of_ble_eq_true rfl)) (fun v52 w52 h52 => ?_)
                                  obtain ⟨rfl, x52⟩ := h52
                                  replace k2 := k2.ch x52.ch (by omega)
                                  replace k5 := k5.ch x52.ch (by omega)
                                  replace k25 := k25.ch x52.ch (by omega)
                                  replace k37 := k37.ch x52.ch (by omega)
                                  replace kS := kS.ch x52.ch (by first | omega | (omega))
                                  replace kL := kL.ch x52.ch (by first | omega | (intro q hq hm; have := dL q hq; omega))
                                  replace k49 := x52.blk.full (by rw [len24]; rfl)
                                  replace G := G.wr x52 (by first | exact .inr f49 | omega | (simp; omega)) nb49
                                  replace V30 := V30.wr x52 (by first | exact .inr f49 | omega | (simp; omega)) nb49
                                  replace V40 := V40.wr x52 (by first | exact .inr f49 | omega | (simp; omega)) nb49
                                  replace hF := G.fz
                                  replace U := U.st x52 f49
                                  refine ⟨.inl rfl, ?_⟩
                                  refine tl9 0 2 3 4 5 6 39 40 41 (gS rfl (gS rfl (gS rfl (gS rfl (gS rfl (gS rfl (gS rfl (gS rfl (gS rfl (gS rfl (gS rfl (gS rfl (gS rfl (gS rfl (gS rfl (gS rfl (gS rfl (gS rfl (gS rfl (gS rfl g0)))))))))))))))))))) (gS rfl (gS rfl (gS rfl (gS rfl (gS rfl (gS rfl (gS rfl (gS rfl (gS rfl (gS rfl (gS rfl (gS rfl (gS rfl (gS rfl (gS rfl (gS rfl (gS rfl (gS rfl (gS rfl g0))))))))))))))))))) (gS rfl (gS rfl (gS rfl (gS rfl (gS rfl (gS rfl (gS rfl (gS rfl (gS rfl (gS rfl (gS rfl (gS rfl (gS rfl (gS rfl (gS rfl (gS rfl (gS rfl (gS rfl g0)))))))))))))))))) (gS rfl (gS rfl (gS rfl (gS rfl (gS rfl (gS rfl (gS rfl (gS rfl (gS rfl (gS rfl (gS rfl (gS rfl (gS rfl (gS rfl (gS rfl (gS rfl (gS rfl g0))))))))))))))))) (gS rfl (gS rfl (gS rfl (gS rfl (gS rfl (gS rfl (gS rfl (gS rfl (gS rfl (gS rfl (gS rfl (gS rfl (gS rfl (gS rfl (gS rfl (gS rfl g0)))))))))))))))) (gS rfl (gS rfl g0)) (gS rfl (gS rfl (gS rfl (gS rfl (gS rfl (gS rfl (gS rfl (gS rfl (gS rfl (gS rfl (gS rfl (gS rfl (gS rfl (gS rfl (gS rfl g0))))))))))))))) (gS rfl (gS rfl (gS rfl (gS rfl (gS rfl (gS rfl (gS rfl (gS rfl (gS rfl (gS rfl (gS rfl (gS rfl (gS rfl (gS rfl g0)))))))))))))) (gS rfl (gS rfl (gS rfl (gS rfl (gS rfl (gS rfl (gS rfl (gS rfl (gS rfl (gS rfl (gS rfl (gS rfl (gS rfl g0))))))))))))) (fun g => ?_)
                                  exact ⟨g, _, _, _, _, _, rfl, V40, Nat.le_trans hu.size fS49, k49, nb49, n43, n44, b50⟩
                              · skip
                                refine t_eff (by exact rfl) (e_alloc zr_107) (fun v53 w53 h53 => ?_)
                                obtain ⟨b53, rfl, n53⟩ := h53
                                have d2_53 : b2 < b53 := Nat.lt_of_lt_of_le k2.lt n53.fresh
                                have d5_53 : b5 < b53 := Nat.lt_of_lt_of_le k5.lt n53.fresh
                                have d25_53 : b25 < b53 := Nat.lt_of_lt_of_le k25.lt n53.fresh
                                have d37_53 : b37 < b53 := Nat.lt_of_lt_of_le k37.lt n53.fresh
                                have f53 : w.heap.size ≤ b53 := Nat.le_trans U.size n53.fresh
                                have nb53 := hF.nb n53.fresh
                                have fS53 := Nat.le_trans SU.size n53.fresh
                                have fV30_53 := Nat.le_trans V30.ch.size n53.fresh
                                have fV40_53 := Nat.le_trans V40.ch.size n53.fresh
                                replace G := G.tr (Go.ofUp hF n53.up)
                                replace V30 := V30.tr (Go.ofUp hF n53.up)
                                replace V40 := V40.tr (Go.ofUp hF n53.up)
                                replace hF := hF.up n53.up
                                replace k2 := k2.up n53.up
                                replace k5 := k5.up n53.up
                                replace k25 := k25.up n53.up
                                replace k37 := k37.up n53.up
                                replace kS := kS.up n53.up
                                replace kL := kL.up n53.up
                                replace U := U.tr n53.up
                                have k53 := n53.blk
                                refine ⟨.inr (SU.tr n53.up), ?_⟩
                                replace SU := SU.tr n53.up
                                refine t_one ?_
                                refine t_eff (by exact rfl) (e_callV cal_217 (aC (et (gS rfl (gS rfl (gS rfl (gS rfl g0)))) rfl) aN) (yp_natOf hF (hvb.mono hL0) (bd_up (bd_W hbb) (by decide)))) (fun v54 w54 h54 => ?_)
                                obtain ⟨H54, g54, n54⟩ := h54
                                have hlew54 := g54.le
                                replace nb2 := g54.nb nb2 k2.lt
                                replace nb5 := g54.nb nb5 k5.lt
                                replace nb25 := g54.nb nb25 k25.lt
                                replace nb37 := g54.nb nb37 k37.lt
                                replace nb53 := g54.nb nb53 k53.lt
                                replace hvr9 := hvr9.mono hlew54
                                replace hvl9 := hvl9.mono hlew54
                                replace hcp := hcp.mono hlew54
                                replace n43 := n43.mono hlew54
                                replace hL0 := hL0.trans hlew54
                                replace k2 := k2.up g54.up
                                replace k5 := k5.up g54.up
                                replace k25 := k25.up g54.up
                                replace k37 := k37.up g54.up
                                replace k53 := k53.up g54.up
                                replace kS := kS.up g54.up
                                replace kL := kL.up g54.up
                                replace U := U.tr g54.up
                                replace G := G.tr g54
                                replace V30 := V30.tr g54
                                replace V40 := V40.tr g54
                                replace hF := g54.fz
                                obtain ⟨na54, nn54, nc54, rfl⟩ := n54.sl
                                refine ⟨.inr (SU.tr g54.up), ?_⟩
                                replace SU := SU.tr g54.up
                                refine t_one ?_
                                refine t_eff (by exact rfl) (e_callV cal_26 (aC (et (gS rfl (gS rfl (gS rfl g0))) rfl) aN) (yp_bytes hF (hvc.mono hL0) (by omega))) (fun v55 w55 h55 => ?_)
                                obtain ⟨H55, g55, b55⟩ := h55
                                have hlew55 := g55.le
                                replace nb2 := g55.nb nb2 k2.lt
                                replace nb5 := g55.nb nb5 k5.lt
                                replace nb25 := g55.nb nb25 k25.lt
                                replace nb37 := g55.nb nb37 k37.lt
                                replace nb53 := g55.nb nb53 k53.lt
                                replace hvr9 := hvr9.mono hlew55
                                replace hvl9 := hvl9.mono hlew55
                                replace hcp := hcp.mono hlew55
                                replace n43 := n43.mono hlew55
                                replace n54 := n54.mono hlew55
                                replace hL0 := hL0.trans hlew55
                                replace k2 := k2.up g55.up
                                replace k5 := k5.up g55.up
                                replace k25 := k25.up g55.up
                                replace k37 := k37.up g55.up
                                replace k53 := k53.up g55.up
                                replace kS := kS.up g55.up
                                replace kL := kL.up g55.up
                                replace U := U.tr g55.up
                                replace G := G.tr g55
                                replace V30 := V30.tr g55
                                replace V40 := V40.tr g55
                                replace hF := g55.fz
                                obtain ⟨za, zc, rfl, hzl⟩ := b55.sv.val
                                refine ⟨.inr (SU.tr g55.up), ?_⟩
                                replace SU := SU.tr g55.up
                                have hb56 : ∀ w, (Instr.build 107 ([(0, (Value.agg (bL (be 20 s.now.accts[i].addr)).toArray)), (1, (.slice na43 nn43 nc43)), (2, (.slice na54 nn54 nc54)), (3, (.slice za s.now.accts[i].code.length zc))] : List (Nat × Value)).toArray).run Hvaa.prog w = .ok (.agg ([(bL (be 20 s.now.accts[i].addr)), ([(.slice na43 nn43 nc43)]), ([(.slice na54 nn54 nc54)]), ([.slice za s.now.accts[i].code.length zc]), [.slice none 0 0]] : List (List Value)).flatten.toArray) w := bld_run zr_107 plc_107 (fill_flat (off := 0) (k := 20) (f := (List.replicate 20 (.int .u8 0))) (c := bL (be 20 s.now.accts[i].addr)) (v := (Value.agg (bL (be 20 s.now.accts[i].addr)).toArray)) rfl rfl (by first | (simp [length_bL, length_be, length_uL]; done) | rfl) (by first | rfl | (simp [length_bL, length_be, length_uL]; done)) rfl (by first | (simp [length_bL, length_be, length_uL]; done) | rfl) (fill_flat (off := 20) (k := 1) (f := [.slice none 0 0]) (c := [(.slice na43 nn43 nc43)]) (v := (.slice na43 nn43 nc43)) rfl rfl (by first | (simp [length_bL, length_be, length_uL]; done) | rfl) (by first | (simp [length_bL, length_be, length_uL]; done) | rfl) rfl (by first | (simp [length_bL, length_be, length_uL]; done) | rfl) (fill_flat (off := 21) (k := 1) (f := [.slice none 0 0]) (c := [(.slice na54 nn54 nc54)]) (v := (.slice na54 nn54 nc54)) rfl rfl (by first | (simp [length_bL, length_be, length_uL]; done) | rfl) (by first | (simp [length_bL, length_be, length_uL]; done) | rfl) rfl (by first | (simp [length_bL, length_be, length_uL]; done) | rfl) (fill_flat (off := 22) (k := 1) (f := [.slice none 0 0]) (c := [.slice za s.now.accts[i].code.length zc]) (v := (.slice za s.now.accts[i].code.length zc)) rfl rfl (by first | (simp [length_bL, length_be, length_uL]; done) | rfl) (by first | (simp [length_bL, length_be, length_uL]; done) | rfl) rfl (by first | (simp [length_bL, length_be, length_uL]; done) | rfl) (fill_nil _ _)))))
                                refine t_step (by exact rfl) ((y_bld (bC (et (gS rfl (gS rfl (gS rfl (gS rfl (gS rfl (gS rfl (gS rfl (gS rfl (gS rfl (gS rfl g0)))))))))) rfl) (bC (et (gS rfl (gS rfl (gS rfl g0))) rfl) (bC (et (gS rfl g0) rfl) (bC (et g0 rfl) bN)))) hb56).to (congrArg (fun l : List Value => Value.agg l.toArray) (show _ = bL (be 20 s.now.accts[i].addr) ++ [(.slice na43 nn43 nc43), (.slice na54 nn54 nc54), .slice za s.now.accts[i].code.length zc, .slice none 0 0] by simp))) ?_
                                refine t_one ?_
                                refine t_effN (by exact rfl) (e_store sz_107 (et (gS rfl (gS rfl (gS rfl g0))) rfl) (cellsV (et g0 rfl) rfl) len24 (by exact one_app (one_four rfl rfl rfl rfl)) k53 (by exact Nat.le_of_ble_eq_true rfl)) (fun v57 w57 h57 => ?_)
                                obtain ⟨rfl, x57⟩ := h57
                                replace k2 := k2.ch x57.ch (by omega)
                                replace k5 := k5.ch x57.ch (by omega)
                                replace k25 := k25.ch x57.ch (by omega)
                                replace k37 := k37.ch x57.ch (by omega)
                                replace kS := kS.ch x57.ch (by first | omega | (omega))
                                replace kL := kL.ch x57.ch (by first | omega | (intro q hq hm; have := dL q hq; omega))
                                replace k53 := x57.blk.full (by rw [len24]; rfl)
                                replace G := G.wr x57 (by first | exact .inr f53 | omega | (simp; omega)) nb53
                                replace V30 := V30.wr x57 (by first | exact .inr f53 | omega | (simp; omega)) nb53
                                replace V40 := V40.wr x57 (by first | exact .inr f53 | omega | (simp; omega)) nb53
                                replace hF := G.fz
                                replace U := U.st x57 f53
                                refine ⟨.inl rfl, ?_⟩
                                refine tl9 0 2 3 4 5 6 39 40 41 (gS rfl (gS rfl (gS rfl (gS rfl (gS rfl (gS rfl (gS rfl (gS rfl (gS rfl (gS rfl (gS rfl (gS rfl (gS rfl (gS rfl (gS rfl (gS rfl (gS rfl (gS rfl (gS rfl (gS rfl g0)))))))))))))))))))) (gS rfl (gS rfl (gS rfl (gS rfl (gS rfl (gS rfl (gS rfl (gS rfl (gS rfl (gS rfl (gS rfl (gS rfl (gS rfl (gS rfl (gS rfl (gS rfl (gS rfl (gS rfl (gS rfl g0))))))))))))))))))) (gS rfl (gS rfl (gS rfl (gS rfl (gS rfl (gS rfl (gS rfl (gS rfl (gS rfl (gS rfl (gS rfl (gS rfl (gS rfl (gS rfl (gS rfl (gS rfl (gS rfl (gS rfl g0)))))))))))))))))) (gS rfl (gS rfl (gS rfl (gS rfl (gS rfl (gS rfl (gS rfl (gS rfl (gS rfl (gS rfl (gS rfl (gS rfl (gS rfl (gS rfl (gS rfl (gS rfl (gS rfl g0))))))))))))))))) (gS rfl (gS rfl (gS rfl (gS rfl (gS rfl (gS rfl (gS rfl (gS rfl (gS rfl (gS rfl (gS rfl (gS rfl (gS rfl (gS rfl (gS rfl (gS rfl g0)))))))))))))))) (gS rfl (gS rfl (gS rfl g0))) (gS rfl (gS rfl (gS rfl (gS rfl (gS rfl (gS rfl (gS rfl (gS rfl (gS rfl (gS rfl (gS rfl (gS rfl (gS rfl (gS rfl (gS rfl g0))))))))))))))) (gS rfl (gS rfl (gS rfl (gS rfl (gS rfl (gS rfl (gS rfl (gS rfl (gS rfl (gS rfl (gS rfl (gS rfl (gS rfl (gS rfl g0)))))))))))))) (gS rfl (gS rfl (gS rfl (gS rfl (gS rfl (gS rfl (gS rfl (gS rfl (gS rfl (gS rfl (gS rfl (gS rfl (gS rfl g0))))))))))))) (fun g => ?_)
                                exact ⟨g, _, _, _, _, _, rfl, V40, Nat.le_trans hu.size fS53, k53, nb53, n43, n54, b55⟩
                            · skip
                              refine t_eff (by exact rfl) (e_alloc zr_107) (fun v58 w58 h58 => ?_)
                              obtain ⟨b58, rfl, n58⟩ := h58
                              have d2_58 : b2 < b58 := Nat.lt_of_lt_of_le k2.lt n58.fresh
                              have d5_58 : b5 < b58 := Nat.lt_of_lt_of_le k5.lt n58.fresh
                              have d25_58 : b25 < b58 := Nat.lt_of_lt_of_le k25.lt n58.fresh
                              have d37_58 : b37 < b58 := Nat.lt_of_lt_of_le k37.lt n58.fresh
                              have f58 : w.heap.size ≤ b58 := Nat.le_trans U.size n58.fresh
                              have nb58 := hF.nb n58.fresh
                              have fS58 := Nat.le_trans SU.size n58.fresh
                              have fV30_58 := Nat.le_trans V30.ch.size n58.fresh
                              have fV40_58 := Nat.le_trans V40.ch.size n58.fresh
                              replace G := G.tr (Go.ofUp hF n58.up)
                              replace V30 := V30.tr (Go.ofUp hF n58.up)
                              replace V40 := V40.tr (Go.ofUp hF n58.up)
                              replace hF := hF.up n58.up
                              replace k2 := k2.up n58.up
                              replace k5 := k5.up n58.up
                              replace k25 := k25.up n58.up
                              replace k37 := k37.up n58.up
                              replace kS := kS.up n58.up
                              replace kL := kL.up n58.up
                              replace U := U.tr n58.up
                              have k58 := n58.blk
                              refine ⟨.inr (SU.tr n58.up), ?_⟩
                              replace SU := SU.tr n58.up
                              refine t_one ?_
                              refine t_eff (by exact rfl) (e_callV cal_217 (aC (et (gS rfl (gS rfl (gS rfl (gS rfl (gS rfl g0))))) rfl) aN) (yp_natOf hF (hvn.mono hL0) (bd_up (bd_64 hbn) (by decide)))) (fun v59 w59 h59 => ?_)
                              obtain ⟨H59, g59, n59⟩ := h59
                              have hlew59 := g59.le
                              replace nb2 := g59.nb nb2 k2.lt
                              replace nb5 := g59.nb nb5 k5.lt
                              replace nb25 := g59.nb nb25 k25.lt
                              replace nb37 := g59.nb nb37 k37.lt
                              replace nb58 := g59.nb nb58 k58.lt
                              replace hvr9 := hvr9.mono hlew59
                              replace hvl9 := hvl9.mono hlew59
                              replace hcp := hcp.mono hlew59
                              replace hL0 := hL0.trans hlew59
                              replace k2 := k2.up g59.up
                              replace k5 := k5.up g59.up
                              replace k25 := k25.up g59.up
                              replace k37 := k37.up g59.up
                              replace k58 := k58.up g59.up
                              replace kS := kS.up g59.up
                              replace kL := kL.up g59.up
                              replace U := U.tr g59.up
                              replace G := G.tr g59
                              replace V30 := V30.tr g59
                              replace V40 := V40.tr g59
                              replace hF := g59.fz
                              obtain ⟨na59, nn59, nc59, rfl⟩ := n59.sl
                              refine ⟨.inr (SU.tr g59.up), ?_⟩
                              replace SU := SU.tr g59.up
                              refine t_one ?_
                              refine t_eff (by exact rfl) (e_callV cal_217 (aC (et (gS rfl (gS rfl (gS rfl (gS rfl g0)))) rfl) aN) (yp_natOf hF (hvb.mono hL0) (bd_up (bd_W hbb) (by decide)))) (fun v60 w60 h60 => ?_)
                              obtain ⟨H60, g60, n60⟩ := h60
                              have hlew60 := g60.le
                              replace nb2 := g60.nb nb2 k2.lt
                              replace nb5 := g60.nb nb5 k5.lt
                              replace nb25 := g60.nb nb25 k25.lt
                              replace nb37 := g60.nb nb37 k37.lt
                              replace nb58 := g60.nb nb58 k58.lt
                              replace hvr9 := hvr9.mono hlew60
                              replace hvl9 := hvl9.mono hlew60
                              replace hcp := hcp.mono hlew60
                              replace n59 := n59.mono hlew60
                              replace hL0 := hL0.trans hlew60
                              replace k2 := k2.up g60.up
                              replace k5 := k5.up g60.up
                              replace k25 := k25.up g60.up
                              replace k37 := k37.up g60.up
                              replace k58 := k58.up g60.up
                              replace kS := kS.up g60.up
                              replace kL := kL.up g60.up
                              replace U := U.tr g60.up
                              replace G := G.tr g60
                              replace V30 := V30.tr g60
                              replace V40 := V40.tr g60
                              replace hF := g60.fz
                              obtain ⟨na60, nn60, nc60, rfl⟩ := n60.sl
                              refine ⟨.inr (SU.tr g60.up), ?_⟩
                              replace SU := SU.tr g60.up
                              refine t_one ?_
                              refine t_eff (by exact rfl) (e_callV cal_26 (aC (et (gS rfl (gS rfl (gS rfl g0))) rfl) aN) (yp_bytes hF (hvc.mono hL0) (by omega))) (fun v61 w61 h61 => ?_)
                              obtain ⟨H61, g61, b61⟩ := h61
                              have hlew61 := g61.le
                              replace nb2 := g61.nb nb2 k2.lt
                              replace nb5 := g61.nb nb5 k5.lt
                              replace nb25 := g61.nb nb25 k25.lt
                              replace nb37 := g61.nb nb37 k37.lt
                              replace nb58 := g61.nb nb58 k58.lt
                              replace hvr9 := hvr9.mono hlew61
                              replace hvl9 := hvl9.mono hlew61
                              replace hcp := hcp.mono hlew61
                              replace n59 := n59.mono hlew61
                              replace n60 := n60.mono hlew61
                              replace hL0 := hL0.trans hlew61
                              replace k2 := k2.up g61.up
                              replace k5 := k5.up g61.up
                              replace k25 := k25.up g61.up
                              replace k37 := k37.up g61.up
                              replace k58 := k58.up g61.up
                              replace kS := kS.up g61.up
                              replace kL := kL.up g61.up
                              replace U := U.tr g61.up
                              replace G := G.tr g61
                              replace V30 := V30.tr g61
                              replace V40 := V40.tr g61
                              replace hF := g61.fz
                              obtain ⟨za, zc, rfl, hzl⟩ := b61.sv.val
                              refine ⟨.inr (SU.tr g61.up), ?_⟩
                              replace SU := SU.tr g61.up
                              have hb62 : ∀ w, (Instr.build 107 ([(0, (Value.agg (bL (be 20 s.now.accts[i].addr)).toArray)), (1, (.slice na59 nn59 nc59)), (2, (.slice na60 nn60 nc60)), (3, (.slice za s.now.accts[i].code.length zc))] : List (Nat × Value)).toArray).run Hvaa.prog w = .ok (.agg ([(bL (be 20 s.now.accts[i].addr)), ([(.slice na59 nn59 nc59)]), ([(.slice na60 nn60 nc60)]), ([.slice za s.now.accts[i].code.length zc]), [.slice none 0 0]] : List (List Value)).flatten.toArray) w := bld_run zr_107 plc_107 (fill_flat (off := 0) (k := 20) (f := (List.replicate 20 (.int .u8 0))) (c := bL (be 20 s.now.accts[i].addr)) (v := (Value.agg (bL (be 20 s.now.accts[i].addr)).toArray)) rfl rfl (by first | (simp [length_bL, length_be, length_uL]; done) | rfl) (by first | rfl | (simp [length_bL, length_be, length_uL]; done)) rfl (by first | (simp [length_bL, length_be, length_uL]; done) | rfl) (fill_flat (off := 20) (k := 1) (f := [.slice none 0 0]) (c := [(.slice na59 nn59 nc59)]) (v := (.slice na59 nn59 nc59)) rfl rfl (by first | (simp [length_bL, length_be, length_uL]; done) | rfl) (by first | (simp [length_bL, length_be, length_uL]; done) | rfl) rfl (by first | (simp [length_bL, length_be, length_uL]; done) | rfl) (fill_flat (off := 21) (k := 1) (f := [.slice none 0 0]) (c := [(.slice na60 nn60 nc60)]) (v := (.slice na60 nn60 nc60)) rfl rfl (by first | (simp [length_bL, length_be, length_uL]; done) | rfl) (by first | (simp [length_bL, length_be, length_uL]; done) | rfl) rfl (by first | (simp [length_bL, length_be, length_uL]; done) | rfl) (fill_flat (off := 22) (k := 1) (f := [.slice none 0 0]) (c := [.slice za s.now.accts[i].code.length zc]) (v := (.slice za s.now.accts[i].code.length zc)) rfl rfl (by first | (simp [length_bL, length_be, length_uL]; done) | rfl) (by first | (simp [length_bL, length_be, length_uL]; done) | rfl) rfl (by first | (simp [length_bL, length_be, length_uL]; done) | rfl) (fill_nil _ _)))))
                              refine t_step (by exact rfl) ((y_bld (bC (et (gS rfl (gS rfl (gS rfl (gS rfl (gS rfl (gS rfl (gS rfl (gS rfl (gS rfl (gS rfl g0)))))))))) rfl) (bC (et (gS rfl (gS rfl g0)) rfl) (bC (et (gS rfl g0) rfl) (bC (et g0 rfl) bN)))) hb62).to (congrArg (fun l : List Value => Value.agg l.toArray) (show _ = bL (be 20 s.now.accts[i].addr) ++ [(.slice na59 nn59 nc59), (.slice na60 nn60 nc60), .slice za s.now.accts[i].code.length zc, .slice none 0 0] by simp))) ?_
                              refine t_one ?_
                              refine t_effN (by exact rfl) (e_store sz_107 (et (gS rfl (gS rfl (gS rfl (gS rfl g0)))) rfl) (cellsV (et g0 rfl) rfl) len24 (by exact one_app (one_four rfl rfl rfl rfl)) k58 (by exact Nat.le_of_ble_eq_true rfl)) (fun v63 w63 h63 => ?_)
                              obtain ⟨rfl, x63⟩ := h63
                              replace k2 := k2.ch x63.ch (by omega)
                              replace k5 := k5.ch x63.ch (by omega)
                              replace k25 := k25.ch x63.ch (by omega)
                              replace k37 := k37.ch x63.ch (by omega)
                              replace kS := kS.ch x63.ch (by first | omega | (omega))
                              replace kL := kL.ch x63.ch (by first | omega | (intro q hq hm; have := dL q hq; omega))
                              replace k58 := x63.blk.full (by rw [len24]; rfl)
                              replace G := G.wr x63 (by first | exact .inr f58 | omega | (simp; omega)) nb58
                              replace V30 := V30.wr x63 (by first | exact .inr f58 | omega | (simp; omega)) nb58
                              replace V40 := V40.wr x63 (by first | exact .inr f58 | omega | (simp; omega)) nb58
                              replace hF := G.fz
                              replace U := U.st x63 f58
                              refine ⟨.inl rfl, ?_⟩
                              refine tl9 0 2 3 4 5 6 39 40 41 (gS rfl (gS rfl (gS rfl (gS rfl (gS rfl (gS rfl (gS rfl (gS rfl (gS rfl (gS rfl (gS rfl (gS rfl (gS rfl (gS rfl (gS rfl (gS rfl (gS rfl (gS rfl (gS rfl (gS rfl g0)))))))))))))))))))) (gS rfl (gS rfl (gS rfl (gS rfl (gS rfl (gS rfl (gS rfl (gS rfl (gS rfl (gS rfl (gS rfl (gS rfl (gS rfl (gS rfl (gS rfl (gS rfl (gS rfl (gS rfl (gS rfl g0))))))))))))))))))) (gS rfl (gS rfl (gS rfl (gS rfl (gS rfl (gS rfl (gS rfl (gS rfl (gS rfl (gS rfl (gS rfl (gS rfl (gS rfl (gS rfl (gS rfl (gS rfl (gS rfl (gS rfl g0)))))))))))))))))) (gS rfl (gS rfl (gS rfl (gS rfl (gS rfl (gS rfl (gS rfl (gS rfl (gS rfl (gS rfl (gS rfl (gS rfl (gS rfl (gS rfl (gS rfl (gS rfl (gS rfl g0))))))))))))))))) (gS rfl (gS rfl (gS rfl (gS rfl (gS rfl (gS rfl (gS rfl (gS rfl (gS rfl (gS rfl (gS rfl (gS rfl (gS rfl (gS rfl (gS rfl (gS rfl g0)))))))))))))))) (gS rfl (gS rfl (gS rfl (gS rfl g0)))) (gS rfl (gS rfl (gS rfl (gS rfl (gS rfl (gS rfl (gS rfl (gS rfl (gS rfl (gS rfl (gS rfl (gS rfl (gS rfl (gS rfl (gS rfl g0))))))))))))))) (gS rfl (gS rfl (gS rfl (gS rfl (gS rfl (gS rfl (gS rfl (gS rfl (gS rfl (gS rfl (gS rfl (gS rfl (gS rfl (gS rfl g0)))))))))))))) (gS rfl (gS rfl (gS rfl (gS rfl (gS rfl (gS rfl (gS rfl (gS rfl (gS rfl (gS rfl (gS rfl (gS rfl (gS rfl g0))))))))))))) (fun g => ?_)
                              exact ⟨g, _, _, _, _, _, rfl, V40, Nat.le_trans hu.size fS58, k58, nb58, n59, n60, b61⟩
                          intro s_ w64 hJ
                          obtain ⟨g, b41, vn9, vb9, vc9, Hj40, rfl, V40, fn41, kn41, nb41, hvn9, hvb9, hvc9⟩ := hJ
                          subst e0 e2 e3 e4 e5 e39 e40 e41
                          have d2_41 : b2 < b41 := Nat.lt_of_lt_of_le k2.lt fn41
                          have d5_41 : b5 < b41 := Nat.lt_of_lt_of_le k5.lt fn41
                          have d25_41 : b25 < b41 := Nat.lt_of_lt_of_le k25.lt fn41
                          have d37_41 : b37 < b41 := Nat.lt_of_lt_of_le k37.lt fn41
                          have f41 : w.heap.size ≤ b41 := Nat.le_trans U.size fn41
                          have fV30_41 := Nat.le_trans V30.ch.size fn41
                          have hlew64 := V40.le
                          replace nb2 := V40.nb nb2 k2.lt
                          replace nb5 := V40.nb nb5 k5.lt
                          replace nb25 := V40.nb nb25 k25.lt
                          replace nb37 := V40.nb nb37 k37.lt
                          replace hvr9 := hvr9.mono hlew64
                          replace hvl9 := hvl9.mono hlew64
                          replace hcp := hcp.mono hlew64
                          replace hL0 := hL0.trans hlew64
                          replace k2 := k2.up V40.up
                          replace k5 := k5.up V40.up
                          replace k25 := k25.up V40.up
                          replace k37 := k37.up V40.up
                          replace kS := kS.up V40.up
                          replace kL := kL.up V40.up
                          replace U := U.tr V40.up
                          replace G := G.tr V40
                          replace V30 := V30.tr V40
                          replace hF := V40.fz
                          have k41 := kn41
                          obtain ⟨nx1, nx2, nx3, rfl⟩ := hvn9.sl
                          obtain ⟨ny1, ny2, ny3, rfl⟩ := hvb9.sl
                          obtain ⟨za9, zc9, rfl, hzl9⟩ := hvc9.sv.val
                          refine hK39 _ _ ?_
                          refine c_seq (fun K65 hK65 => ?_)
                          refine c_seq (fun K66 hK66 => ?_)
                          exact (by
                            refine c_region ?_
                            refine l_step (y_fld fld_107_4 (et (gS rfl (gS rfl (gS rfl (gS rfl g0)))) rfl)) ?_
                            refine l_step (y_load1 one_105 (et g0 rfl) (at1 (k37.cell ((app20 (i := 3) rfl).trans rfl)))) ?_
                            refine l_step (y_neqNS Hvaa.underlying105 (et g0 rfl) rfl) ?_
                            refine l_nil ?_
                            refine hK66 _ _ ?_
                            refine fg10 0 2 3 4 5 6 39 40 41 60 (gS rfl (gS rfl (gS rfl (gS rfl (gS rfl (gS rfl (gS rfl (gS rfl (gS rfl (gS rfl (gS rfl g0))))))))))) (gS rfl (gS rfl (gS rfl (gS rfl (gS rfl (gS rfl (gS rfl (gS rfl (gS rfl (gS rfl g0)))))))))) (gS rfl (gS rfl (gS rfl (gS rfl (gS rfl (gS rfl (gS rfl (gS rfl (gS rfl g0))))))))) (gS rfl (gS rfl (gS rfl (gS rfl (gS rfl (gS rfl (gS rfl (gS rfl g0)))))))) (gS rfl (gS rfl (gS rfl (gS rfl (gS rfl (gS rfl (gS rfl g0))))))) (gS rfl (gS rfl (gS rfl (gS rfl (gS rfl (gS rfl g0)))))) (gS rfl (gS rfl (gS rfl (gS rfl (gS rfl g0))))) (gS rfl (gS rfl (gS rfl (gS rfl g0)))) (gS rfl (gS rfl (gS rfl g0))) g0 (fun g => ?_)
                            refine c_cond (et g0 rfl) (fun cB3 => ?_) (fun cB3 => ?_)
                            · skip
                              
                              have hnB3 : ea ≠ none := fun e => by rw [e] at cB3; cases cB3
                              exact (by
                                refine c_region ?_
                                refine l_step (y_fld fld_107_4 (et (gS rfl (gS rfl (gS rfl (gS rfl (gS rfl g0))))) rfl)) ?_
                                refine l_step (y_load1 one_105 (et g0 rfl) (at1 (k37.cell ((app20 (i := 3) rfl).trans rfl)))) ?_
                                refine l_step (y_len Hvaa.underlying105 (et g0 rfl)) ?_
                                refine l_eff (e_make Hvaa.underlying105 sz_115 zr_115 by_115 (et g0 rfl) (et g0 rfl) (by (have := ch.slots _ (List.getElem_mem (show i < s.now.accts.length by omega)); omega)) (by (have := ch.slots _ (List.getElem_mem (show i < s.now.accts.length by omega)); omega))) (fun v68 w68 h68 => ?_)
                                obtain ⟨b68, rfl, n68⟩ := h68
                                have d2_68 : b2 < b68 := Nat.lt_of_lt_of_le k2.lt n68.fresh
                                have d5_68 : b5 < b68 := Nat.lt_of_lt_of_le k5.lt n68.fresh
                                have d25_68 : b25 < b68 := Nat.lt_of_lt_of_le k25.lt n68.fresh
                                have d37_68 : b37 < b68 := Nat.lt_of_lt_of_le k37.lt n68.fresh
                                have d41_68 : b41 < b68 := Nat.lt_of_lt_of_le k41.lt n68.fresh
                                have f68 : w.heap.size ≤ b68 := Nat.le_trans U.size n68.fresh
                                have nb68 := hF.nb n68.fresh
                                have fV30_68 := Nat.le_trans V30.ch.size n68.fresh
                                replace G := G.tr (Go.ofUp hF n68.up)
                                replace V30 := V30.tr (Go.ofUp hF n68.up)
                                replace hF := hF.up n68.up
                                replace k2 := k2.up n68.up
                                replace k5 := k5.up n68.up
                                replace k25 := k25.up n68.up
                                replace k37 := k37.up n68.up
                                replace k41 := k41.up n68.up
                                replace kS := kS.up n68.up
                                replace kL := kL.up n68.up
                                replace U := U.tr n68.up
                                have k68 := n68.blk
                                obtain ⟨rest0s, hr0s, k68⟩ := made_list k68
                                refine l_step (y_fld fld_107_4 (et (gS rfl (gS rfl (gS rfl (gS rfl (gS rfl (gS rfl (gS rfl (gS rfl g0)))))))) rfl)) ?_
                                refine l_effN (e_store sz_105 (et g0 rfl) (cellsV (et (gS rfl g0) rfl) rfl) rfl (by first | exact one_bL _ | exact one_uL _ | (intro v hv; simp at hv; subst hv; rfl)) k41 (by (rw [List.size_toArray, len24]; exact Nat.le_of_ble_eq_true rfl))) (fun v69 w69 h69 => ?_)
                                obtain ⟨rfl, x69⟩ := h69
                                replace k2 := k2.ch x69.ch (by omega)
                                replace k5 := k5.ch x69.ch (by omega)
                                replace k25 := k25.ch x69.ch (by omega)
                                replace k37 := k37.ch x69.ch (by omega)
                                replace k68 := k68.ch x69.ch (by omega)
                                replace kS := kS.ch x69.ch (by first | omega | (omega))
                                replace kL := kL.ch x69.ch (by first | omega | (intro q hq hm; have := dL q hq; omega))
                                replace k41 := x69.blk
                                replace G := G.wr x69 (by first | exact .inr f41 | omega | (simp; omega)) nb41
                                replace V30 := V30.wr x69 (by first | exact .inr f41 | omega | (simp; omega)) nb41
                                replace hF := G.fz
                                replace U := U.st x69 f41
                                rw [acct_set] at k41
                                refine l_nil ?_
                                refine hK65 _ _ ?_
                                refine fg9 0 2 3 4 5 6 39 40 41 (gS rfl (gS rfl (gS rfl (gS rfl (gS rfl (gS rfl (gS rfl (gS rfl (gS rfl (gS rfl (gS rfl (gS rfl (gS rfl (gS rfl g0)))))))))))))) (gS rfl (gS rfl (gS rfl (gS rfl (gS rfl (gS rfl (gS rfl (gS rfl (gS rfl (gS rfl (gS rfl (gS rfl (gS rfl g0))))))))))))) (gS rfl (gS rfl (gS rfl (gS rfl (gS rfl (gS rfl (gS rfl (gS rfl (gS rfl (gS rfl (gS rfl (gS rfl g0)))))))))))) (gS rfl (gS rfl (gS rfl (gS rfl (gS rfl (gS rfl (gS rfl (gS rfl (gS rfl (gS rfl (gS rfl g0))))))))))) (gS rfl (gS rfl (gS rfl (gS rfl (gS rfl (gS rfl (gS rfl (gS rfl (gS rfl (gS rfl g0)))))))))) (gS rfl (gS rfl (gS rfl (gS rfl (gS rfl (gS rfl (gS rfl (gS rfl (gS rfl g0))))))))) (gS rfl (gS rfl (gS rfl (gS rfl (gS rfl (gS rfl (gS rfl (gS rfl g0)))))))) (gS rfl (gS rfl (gS rfl (gS rfl (gS rfl (gS rfl (gS rfl g0))))))) (gS rfl (gS rfl (gS rfl (gS rfl (gS rfl (gS rfl g0)))))) (fun g => ?_)
                                refine c_seq (fun K70 hK70 => ?_)
                                refine c_seq (fun K71 hK71 => ?_)
                                exact (by
                                  refine c_region ?_
                                  refine l_step (y_fld fld_107_4 (et (gS rfl (gS rfl (gS rfl (gS rfl g0)))) rfl)) ?_
                                  refine l_step (y_load1 one_105 (et g0 rfl) (at1 (k37.cell ((app20 (i := 3) rfl).trans rfl)))) ?_
                                  refine l_step (y_len Hvaa.underlying105 (et g0 rfl)) ?_
                                  refine l_step y_moveC ?_
                                  refine l_nil ?_
                                  refine hK71 _ _ ?_
                                  refine fg11 0 2 3 4 6 39 40 41 67 68 69 (gS rfl (gS rfl (gS rfl (gS rfl (gS rfl (gS rfl (gS rfl (gS rfl (gS rfl (gS rfl (gS rfl (gS rfl g0)))))))))))) (gS rfl (gS rfl (gS rfl (gS rfl (gS rfl (gS rfl (gS rfl (gS rfl (gS rfl (gS rfl (gS rfl g0))))))))))) (gS rfl (gS rfl (gS rfl (gS rfl (gS rfl (gS rfl (gS rfl (gS rfl (gS rfl (gS rfl g0)))))))))) (gS rfl (gS rfl (gS rfl (gS rfl (gS rfl (gS rfl (gS rfl (gS rfl (gS rfl g0))))))))) (gS rfl (gS rfl (gS rfl (gS rfl (gS rfl (gS rfl (gS rfl g0))))))) (gS rfl (gS rfl (gS rfl (gS rfl (gS rfl (gS rfl g0)))))) (gS rfl (gS rfl (gS rfl (gS rfl (gS rfl g0))))) (gS rfl (gS rfl (gS rfl (gS rfl g0)))) (gS rfl (gS rfl g0)) (gS rfl g0) g0 (fun g => ?_)
                                  refine c_block (fun Q72 hQ72 => ?_)
                                  refine fg11 0 2 3 4 6 39 40 41 67 68 69 (gS rfl (gS rfl (gS rfl (gS rfl (gS rfl (gS rfl (gS rfl (gS rfl (gS rfl (gS rfl g0)))))))))) (gS rfl (gS rfl (gS rfl (gS rfl (gS rfl (gS rfl (gS rfl (gS rfl (gS rfl g0))))))))) (gS rfl (gS rfl (gS rfl (gS rfl (gS rfl (gS rfl (gS rfl (gS rfl g0)))))))) (gS rfl (gS rfl (gS rfl (gS rfl (gS rfl (gS rfl (gS rfl g0))))))) (gS rfl (gS rfl (gS rfl (gS rfl (gS rfl (gS rfl g0)))))) (gS rfl (gS rfl (gS rfl (gS rfl (gS rfl g0))))) (gS rfl (gS rfl (gS rfl (gS rfl g0)))) (gS rfl (gS rfl (gS rfl g0))) (gS rfl (gS rfl g0)) (gS rfl g0) g0 (fun g => ?_)
                                  refine c_loop (fun k_ s_ W73 => ∃ (g : Nat → Value) (Hk73 : Store) (csj : List (List Value)) (restj : List Value) (ij : Nat), s_ = (upd (upd (upd (upd (upd (upd (upd (upd (upd (upd (upd g 0 (.pointer (some ⟨bs, 0, none⟩))) 2 (.pointer (some ⟨b2, 0, none⟩))) 3 (.pointer (some ⟨b5, 0, none⟩))) 4 (.int .i64 (i : Nat))) 6 (.pointer (some ⟨b41, 0, none⟩))) 39 (.slice aa s.now.accts.length ac)) 40 (.int .i64 (s.now.accts.length : Nat))) 41 (.int .i64 (i : Nat))) 67 (.slice ea s.now.accts[i].slots.length ec)) 68 (.int .i64 (s.now.accts[i].slots.length : Nat))) 69 (.int .i64 (ij : Nat))) ∧ s.now.accts[i].slots.length - ij = k_ ∧ (ij ≤ s.now.accts[i].slots.length) ∧ (csj.length = ij) ∧ (restj.length = (s.now.accts[i].slots.length - ij) * 2) ∧ (CP P_slot 2 Hk73 csj s.now.accts[i].slots) ∧ Blk W73 b68 ((csj.flatten ++ restj).toArray) ∧ Go (fun k => k = b68) w69 Hj40 W73 Hk73) (s.now.accts[i].slots.length - (0)) ?_ ?_
                                  · exact ⟨g, _, [], rest0s, 0, rfl, rfl, Nat.zero_le _, rfl, by rw [hr0s, Nat.sub_zero], CP.nil _ _ _ _, k68, Go.refl hF⟩
                                  · skip
                                    intro k_ s_ W73 hI K73 hK73
                                    obtain ⟨g, Hk73, csj, restj, ij, rfl, rfl, hij, hclj, hrlj, hcpj, nk68, V73⟩ := hI
                                    have hle73 := V73.le
                                    replace nb2 := V73.nb nb2 k2.lt
                                    replace nb5 := V73.nb nb5 k5.lt
                                    replace nb25 := V73.nb nb25 k25.lt
                                    replace nb37 := V73.nb nb37 k37.lt
                                    replace nb41 := V73.nb nb41 k41.lt
                                    replace nb68 := V73.nb nb68 k68.lt
                                    replace hvr9 := hvr9.mono hle73
                                    replace hvl9 := hvl9.mono hle73
                                    replace hcp := hcp.mono hle73
                                    replace hvn9 := hvn9.mono hle73
                                    replace hvb9 := hvb9.mono hle73
                                    replace hvc9 := hvc9.mono hle73
                                    replace hL0 := hL0.trans hle73
                                    replace G := G.trans V73 (by intro b hb; first | exact hb.elim | omega | (simp at hb ⊢; omega))
                                    replace V30 := V30.trans V73 (by intro b hb; first | exact hb.elim | omega | (simp at hb ⊢; omega))
                                    replace hF := V73.fz
                                    replace k2 := k2.ch V73.ch (by omega)
                                    replace k5 := k5.ch V73.ch (by omega)
                                    replace k25 := k25.ch V73.ch (by omega)
                                    replace k37 := k37.ch V73.ch (by omega)
                                    replace k41 := k41.ch V73.ch (by omega)
                                    replace kS := kS.ch V73.ch (by omega)
                                    replace kL := kL.ch V73.ch (by intro q hq hm; have := dL q hq; omega)
                                    replace k68 := nk68
                                    replace U := U.cc V73.ch (by intro b hb; first | exact hb.elim | omega | (simp at hb ⊢; omega))
                                    refine c_seq (fun K74 hK74 => ?_)
                                    exact (by
                                      refine c_region ?_
                                      refine l_step (y_lss (et g0 rfl) (et (gS rfl g0) rfl)) ?_
                                      refine l_nil ?_
                                      refine hK74 _ _ ?_
                                      refine c_seq (fun K75 hK75 => ?_)
                                      refine c_cond (et g0 rfl) (fun cB4 => ?_) (fun cB4 => ?_)
                                      · skip
                                        
                                        have hilj : ij < s.now.accts[i].slots.length := by have := of_decide_eq_true cB4; omega
                                        refine c_skip ?_
                                        refine hK75 _ _ ?_
                                        refine fg11 0 2 3 4 6 39 40 41 67 68 69 (gS rfl (gS rfl (gS rfl (gS rfl (gS rfl (gS rfl (gS rfl (gS rfl (gS rfl (gS rfl (gS rfl g0))))))))))) (gS rfl (gS rfl (gS rfl (gS rfl (gS rfl (gS rfl (gS rfl (gS rfl (gS rfl (gS rfl g0)))))))))) (gS rfl (gS rfl (gS rfl (gS rfl (gS rfl (gS rfl (gS rfl (gS rfl (gS rfl g0))))))))) (gS rfl (gS rfl (gS rfl (gS rfl (gS rfl (gS rfl (gS rfl (gS rfl g0)))))))) (gS rfl (gS rfl (gS rfl (gS rfl (gS rfl (gS rfl (gS rfl g0))))))) (gS rfl (gS rfl (gS rfl (gS rfl (gS rfl (gS rfl g0)))))) (gS rfl (gS rfl (gS rfl (gS rfl (gS rfl g0))))) (gS rfl (gS rfl (gS rfl (gS rfl g0)))) (gS rfl (gS rfl (gS rfl g0))) (gS rfl (gS rfl g0)) (gS rfl g0) (fun g => ?_)
                                        refine c_seq (fun K77 hK77 => ?_)
                                        refine c_block (fun Q78 hQ78 => ?_)
                                        refine c_seq (fun K79 hK79 => ?_)
                                        exact (by
                                          refine c_region ?_
                                          refine l_step (y_moveV (et g0 rfl)) ?_
                                          have hF0 := hF.of hL0
                                          obtain ⟨bj, oj, rj, haj, hrowj, hrrj, vk, vv, hrj1, hvk, hvv, hsk, hsv⟩ := hvs.row hF0 (i := ij) hilj
                                          rw [hrj1] at hrowj hrrj
                                          obtain ⟨ka1, ka2, ka3, rfl⟩ := hvk.sl
                                          obtain ⟨kb1, kb2, kb3, rfl⟩ := hvv.sl
                                          refine l_step (y_idxSa haj Hvaa.underlying105 sz_115 (et (gS rfl (gS rfl (gS rfl g0))) rfl) (et (gS rfl g0) rfl) ?_) ?_
                                          omega
                                          refine l_step (y_loadR agg_115 sz_115 (et g0 rfl) rfl (at1R hrowj)) ?_
                                          refine l_eff (e_alloc zr_115) (fun v80 w80 h80 => ?_)
                                          obtain ⟨b80, rfl, n80⟩ := h80
                                          have d2_80 : b2 < b80 := Nat.lt_of_lt_of_le k2.lt n80.fresh
                                          have d5_80 : b5 < b80 := Nat.lt_of_lt_of_le k5.lt n80.fresh
                                          have d25_80 : b25 < b80 := Nat.lt_of_lt_of_le k25.lt n80.fresh
                                          have d37_80 : b37 < b80 := Nat.lt_of_lt_of_le k37.lt n80.fresh
                                          have d41_80 : b41 < b80 := Nat.lt_of_lt_of_le k41.lt n80.fresh
                                          have d68_80 : b68 < b80 := Nat.lt_of_lt_of_le k68.lt n80.fresh
                                          have f80 : w.heap.size ≤ b80 := Nat.le_trans U.size n80.fresh
                                          have nb80 := hF.nb n80.fresh
                                          have fV30_80 := Nat.le_trans V30.ch.size n80.fresh
                                          have fV73_80 := Nat.le_trans V73.ch.size n80.fresh
                                          replace G := G.tr (Go.ofUp hF n80.up)
                                          replace V30 := V30.tr (Go.ofUp hF n80.up)
                                          replace V73 := V73.tr (Go.ofUp hF n80.up)
                                          replace hF := hF.up n80.up
                                          replace k2 := k2.up n80.up
                                          replace k5 := k5.up n80.up
                                          replace k25 := k25.up n80.up
                                          replace k37 := k37.up n80.up
                                          replace k41 := k41.up n80.up
                                          replace k68 := k68.up n80.up
                                          replace kS := kS.up n80.up
                                          replace kL := kL.up n80.up
                                          replace U := U.tr n80.up
                                          have k80 := n80.blk
                                          exact (by
                                            refine l_step (y_assignV (et (gS rfl (gS rfl (gS rfl g0))) rfl)) ?_
                                            refine l_effN (e_store sz_115 (et (gS rfl g0) rfl) (cellsV (et (gS rfl (gS rfl g0)) rfl) rfl) rfl (by exact one_two rfl rfl) k80 (by exact Nat.le_of_ble_eq_true rfl)) (fun v81 w81 h81 => ?_)
                                            obtain ⟨rfl, x81⟩ := h81
                                            replace k2 := k2.ch x81.ch (by omega)
                                            replace k5 := k5.ch x81.ch (by omega)
                                            replace k25 := k25.ch x81.ch (by omega)
                                            replace k37 := k37.ch x81.ch (by omega)
                                            replace k41 := k41.ch x81.ch (by omega)
                                            replace k68 := k68.ch x81.ch (by omega)
                                            replace kS := kS.ch x81.ch (by first | omega | (omega))
                                            replace kL := kL.ch x81.ch (by first | omega | (intro q hq hm; have := dL q hq; omega))
                                            replace k80 := x81.blk.full rfl
                                            replace G := G.wr x81 (by first | exact .inr f80 | omega | (simp; omega)) nb80
                                            replace V30 := V30.wr x81 (by first | exact .inr f80 | omega | (simp; omega)) nb80
                                            replace V73 := V73.wr x81 (by first | exact .inr f80 | omega | (simp; omega)) nb80
                                            replace hF := G.fz
                                            replace U := U.st x81 f80
                                            refine l_nil ?_
                                            refine hK79 _ _ ?_
                                            refine fg13 0 2 3 4 6 39 40 41 67 68 69 8 7 (gS rfl (gS rfl (gS rfl (gS rfl (gS rfl (gS rfl (gS rfl (gS rfl (gS rfl (gS rfl (gS rfl (gS rfl (gS rfl (gS rfl (gS rfl g0))))))))))))))) (gS rfl (gS rfl (gS rfl (gS rfl (gS rfl (gS rfl (gS rfl (gS rfl (gS rfl (gS rfl (gS rfl (gS rfl (gS rfl (gS rfl g0)))))))))))))) (gS rfl (gS rfl (gS rfl (gS rfl (gS rfl (gS rfl (gS rfl (gS rfl (gS rfl (gS rfl (gS rfl (gS rfl (gS rfl g0))))))))))))) (gS rfl (gS rfl (gS rfl (gS rfl (gS rfl (gS rfl (gS rfl (gS rfl (gS rfl (gS rfl (gS rfl (gS rfl g0)))))))))))) (gS rfl (gS rfl (gS rfl (gS rfl (gS rfl (gS rfl (gS rfl (gS rfl (gS rfl (gS rfl (gS rfl g0))))))))))) (gS rfl (gS rfl (gS rfl (gS rfl (gS rfl (gS rfl (gS rfl (gS rfl (gS rfl (gS rfl g0)))))))))) (gS rfl (gS rfl (gS rfl (gS rfl (gS rfl (gS rfl (gS rfl (gS rfl (gS rfl g0))))))))) (gS rfl (gS rfl (gS rfl (gS rfl (gS rfl (gS rfl (gS rfl (gS rfl g0)))))))) (gS rfl (gS rfl (gS rfl (gS rfl (gS rfl (gS rfl (gS rfl g0))))))) (gS rfl (gS rfl (gS rfl (gS rfl (gS rfl (gS rfl g0)))))) (gS rfl (gS rfl (gS rfl (gS rfl (gS rfl g0))))) (gS rfl g0) g0 (fun g => ?_)
                                            refine c_draw Up 11 [(0, true), (1, true), (2, true), (3, true), (4, true), (6, true), (7, true), (5, false), (8, false), (9, true), (10, true), (11, false)] (by kernel_rfl) (fun w82 hu => ⟨Up.refl _, ?_⟩)
                                            replace G := G.tr (Go.ofUp hF hu)
                                            replace V30 := V30.tr (Go.ofUp hF hu)
                                            replace V73 := V73.tr (Go.ofUp hF hu)
                                            replace hF := hF.up hu
                                            replace k2 := k2.up hu
                                            replace k5 := k5.up hu
                                            replace k25 := k25.up hu
                                            replace k37 := k37.up hu
                                            replace k41 := k41.up hu
                                            replace k68 := k68.up hu
                                            replace k80 := k80.up hu
                                            replace kS := kS.up hu
                                            replace kL := kL.up hu
                                            replace U := U.tr hu
                                            have SU := Up.refl w82
                                            exact (by
                                              refine p_step (by exact rfl) (y_fld fld_107_4 (et (gS rfl (gS rfl (gS rfl (gS rfl (gS rfl (gS rfl (gS rfl (gS rfl g0)))))))) rfl)) ?_
                                              refine p_step (by exact rfl) (y_load1 one_105 (et g0 rfl) (atS (k41.cell ((app20 (i := 3) rfl).trans rfl)))) ?_
                                              refine p_step (by exact rfl) (y_moveV (et (gS rfl (gS rfl g0)) rfl)) ?_
                                              refine p_step (by exact rfl) (y_fld fld_115_0 (et (gS rfl (gS rfl (gS rfl (gS rfl g0)))) rfl)) ?_
                                              refine p_step (by exact rfl) (y_load1 one_95 (et g0 rfl) (atS (k80.cell rfl))) ?_
                                              refine p_step (by exact rfl) (y_fld fld_115_1 (et (gS rfl (gS rfl (gS rfl (gS rfl (gS rfl (gS rfl g0)))))) rfl)) ?_
                                              refine p_step (by exact rfl) (y_load1 one_95 (et g0 rfl) (atS (k80.cell rfl))) ?_
                                              refine p_eff (by exact rfl) (e_callV cal_217 (aC (et (gS rfl (gS rfl g0)) rfl) aN) (yp_natOf hF (hvk.mono hL0) (bd_up (bd_W hsk) (by decide)))) (fun v83 w83 h83 => ?_)
                                              obtain ⟨H83, g83, n83⟩ := h83
                                              have hlew83 := g83.le
                                              replace nb2 := g83.nb nb2 k2.lt
                                              replace nb5 := g83.nb nb5 k5.lt
                                              replace nb25 := g83.nb nb25 k25.lt
                                              replace nb37 := g83.nb nb37 k37.lt
                                              replace nb41 := g83.nb nb41 k41.lt
                                              replace nb68 := g83.nb nb68 k68.lt
                                              replace nb80 := g83.nb nb80 k80.lt
                                              replace hvr9 := hvr9.mono hlew83
                                              replace hvl9 := hvl9.mono hlew83
                                              replace hcp := hcp.mono hlew83
                                              replace hvn9 := hvn9.mono hlew83
                                              replace hvb9 := hvb9.mono hlew83
                                              replace hvc9 := hvc9.mono hlew83
                                              replace hcpj := hcpj.mono hlew83
                                              replace hL0 := hL0.trans hlew83
                                              replace k2 := k2.up g83.up
                                              replace k5 := k5.up g83.up
                                              replace k25 := k25.up g83.up
                                              replace k37 := k37.up g83.up
                                              replace k41 := k41.up g83.up
                                              replace k68 := k68.up g83.up
                                              replace k80 := k80.up g83.up
                                              replace kS := kS.up g83.up
                                              replace kL := kL.up g83.up
                                              replace U := U.tr g83.up
                                              replace G := G.tr g83
                                              replace V30 := V30.tr g83
                                              replace V73 := V73.tr g83
                                              replace hF := g83.fz
                                              obtain ⟨na83, nn83, nc83, rfl⟩ := n83.sl
                                              refine ⟨.inr (SU.tr g83.up), ?_⟩
                                              replace SU := SU.tr g83.up
                                              exact (by
                                                refine p_eff (by exact rfl) (e_callV cal_217 (aC (et (gS rfl g0) rfl) aN) (yp_natOf hF (hvv.mono hL0) (bd_up (bd_W hsv) (by decide)))) (fun v84 w84 h84 => ?_)
                                                obtain ⟨H84, g84, n84⟩ := h84
                                                have hlew84 := g84.le
                                                replace nb2 := g84.nb nb2 k2.lt
                                                replace nb5 := g84.nb nb5 k5.lt
                                                replace nb25 := g84.nb nb25 k25.lt
                                                replace nb37 := g84.nb nb37 k37.lt
                                                replace nb41 := g84.nb nb41 k41.lt
                                                replace nb68 := g84.nb nb68 k68.lt
                                                replace nb80 := g84.nb nb80 k80.lt
                                                replace hvr9 := hvr9.mono hlew84
                                                replace hvl9 := hvl9.mono hlew84
                                                replace hcp := hcp.mono hlew84
                                                replace hvn9 := hvn9.mono hlew84
                                                replace hvb9 := hvb9.mono hlew84
                                                replace hvc9 := hvc9.mono hlew84
                                                replace hcpj := hcpj.mono hlew84
                                                replace n83 := n83.mono hlew84
                                                replace hL0 := hL0.trans hlew84
                                                replace k2 := k2.up g84.up
                                                replace k5 := k5.up g84.up
                                                replace k25 := k25.up g84.up
                                                replace k37 := k37.up g84.up
                                                replace k41 := k41.up g84.up
                                                replace k68 := k68.up g84.up
                                                replace k80 := k80.up g84.up
                                                replace kS := kS.up g84.up
                                                replace kL := kL.up g84.up
                                                replace U := U.tr g84.up
                                                replace G := G.tr g84
                                                replace V30 := V30.tr g84
                                                replace V73 := V73.tr g84
                                                replace hF := g84.fz
                                                obtain ⟨na84, nn84, nc84, rfl⟩ := n84.sl
                                                refine ⟨.inr (SU.tr g84.up), ?_⟩
                                                replace SU := SU.tr g84.up
                                                exact (by
                                                  have hb85 : ∀ w, (Instr.build 115 ([(0, (.slice na83 nn83 nc83)), (1, (.slice na84 nn84 nc84))] : List (Nat × Value)).toArray).run Hvaa.prog w = .ok (.agg ([([(.slice na83 nn83 nc83)]), ([(.slice na84 nn84 nc84)])] : List (List Value)).flatten.toArray) w := bld_run zr_115 plc_115 (fill_flat (off := 0) (k := 1) (f := [.slice none 0 0]) (c := [(.slice na83 nn83 nc83)]) (v := (.slice na83 nn83 nc83)) rfl rfl (by first | (simp [length_bL, length_be, length_uL]; done) | rfl) (by first | rfl | (simp [length_bL, length_be, length_uL]; done)) rfl (by first | (simp [length_bL, length_be, length_uL]; done) | rfl) (fill_flat (off := 1) (k := 1) (f := [.slice none 0 0]) (c := [(.slice na84 nn84 nc84)]) (v := (.slice na84 nn84 nc84)) rfl rfl (by first | (simp [length_bL, length_be, length_uL]; done) | rfl) (by first | (simp [length_bL, length_be, length_uL]; done) | rfl) rfl (by first | (simp [length_bL, length_be, length_uL]; done) | rfl) (fill_nil _ _)))
                                                  refine p_step (by exact rfl) ((y_bld (bC (et (gS rfl g0) rfl) (bC (et g0 rfl) bN)) hb85).to (congrArg (fun l : List Value => Value.agg l.toArray) (show _ = [(.slice na83 nn83 nc83), (.slice na84 nn84 nc84)] by simp))) ?_
                                                  have hflj : csj.flatten.length = ij * 2 := by rw [hcpj.len (by omega), hclj]
                                                  have hkrj : 2 ≤ restj.length := by rw [hrlj]; omega
                                                  refine p_step (by exact rfl) (y_idxSa rfl Hvaa.underlying105 sz_115 (et (gS rfl (gS rfl (gS rfl (gS rfl (gS rfl (gS rfl (gS rfl (gS rfl g0)))))))) rfl) (et (gS rfl (gS rfl (gS rfl (gS rfl (gS rfl (gS rfl (gS rfl g0))))))) rfl) ?_) ?_
                                                  omega
                                                  refine p_effN (by exact rfl) (e_store sz_115 (et g0 rfl) (cellsV (et (gS rfl g0) rfl) rfl) rfl (by exact one_two rfl rfl) k68 (by (rw [List.size_toArray, List.length_append, hflj, hrlj]; omega))) (fun v86 w86 h86 => ?_)
                                                  obtain ⟨rfl, x86⟩ := h86
                                                  replace k2 := k2.ch x86.ch (by omega)
                                                  replace k5 := k5.ch x86.ch (by omega)
                                                  replace k25 := k25.ch x86.ch (by omega)
                                                  replace k37 := k37.ch x86.ch (by omega)
                                                  replace k41 := k41.ch x86.ch (by omega)
                                                  replace k80 := k80.ch x86.ch (by omega)
                                                  replace kS := kS.ch x86.ch (by first | omega | (omega))
                                                  replace kL := kL.ch x86.ch (by first | omega | (intro q hq hm; have := dL q hq; omega))
                                                  replace k68 := x86.blk
                                                  replace G := G.wr x86 (by first | exact .inr f68 | omega | (simp; omega)) nb68
                                                  replace V30 := V30.wr x86 (by first | exact .inr f68 | omega | (simp; omega)) nb68
                                                  replace V73 := V73.wr x86 (by first | exact .inr f68 | omega | (simp; omega)) nb68
                                                  replace hF := G.fz
                                                  replace U := U.st x86 f68
                                                  refine ⟨.inl rfl, ?_⟩
                                                  rw [fill_rec hflj rfl hkrj] at k68
                                                  refine p_nil ?_
                                                  refine hQ78 _ _ _ (in_normal ?_)
                                                  refine hK77 _ _ ?_
                                                  refine fg11 0 2 3 4 6 39 40 41 67 68 69 (gS rfl (gS rfl (gS rfl (gS rfl (gS rfl (gS rfl (gS rfl (gS rfl (gS rfl (gS rfl (gS rfl (gS rfl (gS rfl (gS rfl (gS rfl (gS rfl (gS rfl (gS rfl (gS rfl (gS rfl (gS rfl (gS rfl (gS rfl g0))))))))))))))))))))))) (gS rfl (gS rfl (gS rfl (gS rfl (gS rfl (gS rfl (gS rfl (gS rfl (gS rfl (gS rfl (gS rfl (gS rfl (gS rfl (gS rfl (gS rfl (gS rfl (gS rfl (gS rfl (gS rfl (gS rfl (gS rfl (gS rfl g0)))))))))))))))))))))) (gS rfl (gS rfl (gS rfl (gS rfl (gS rfl (gS rfl (gS rfl (gS rfl (gS rfl (gS rfl (gS rfl (gS rfl (gS rfl (gS rfl (gS rfl (gS rfl (gS rfl (gS rfl (gS rfl (gS rfl (gS rfl g0))))))))))))))))))))) (gS rfl (gS rfl (gS rfl (gS rfl (gS rfl (gS rfl (gS rfl (gS rfl (gS rfl (gS rfl (gS rfl (gS rfl (gS rfl (gS rfl (gS rfl (gS rfl (gS rfl (gS rfl (gS rfl (gS rfl g0)))))))))))))))))))) (gS rfl (gS rfl (gS rfl (gS rfl (gS rfl (gS rfl (gS rfl (gS rfl (gS rfl (gS rfl (gS rfl (gS rfl (gS rfl (gS rfl (gS rfl (gS rfl (gS rfl (gS rfl (gS rfl g0))))))))))))))))))) (gS rfl (gS rfl (gS rfl (gS rfl (gS rfl (gS rfl (gS rfl (gS rfl (gS rfl (gS rfl (gS rfl (gS rfl (gS rfl (gS rfl (gS rfl (gS rfl (gS rfl (gS rfl g0)))))))))))))))))) (gS rfl (gS rfl (gS rfl (gS rfl (gS rfl (gS rfl (gS rfl (gS rfl (gS rfl (gS rfl (gS rfl (gS rfl (gS rfl (gS rfl (gS rfl (gS rfl (gS rfl g0))))))))))))))))) (gS rfl (gS rfl (gS rfl (gS rfl (gS rfl (gS rfl (gS rfl (gS rfl (gS rfl (gS rfl (gS rfl (gS rfl (gS rfl (gS rfl (gS rfl (gS rfl g0)))))))))))))))) (gS rfl (gS rfl (gS rfl (gS rfl (gS rfl (gS rfl (gS rfl (gS rfl (gS rfl (gS rfl (gS rfl (gS rfl (gS rfl (gS rfl (gS rfl g0))))))))))))))) (gS rfl (gS rfl (gS rfl (gS rfl (gS rfl (gS rfl (gS rfl (gS rfl (gS rfl (gS rfl (gS rfl (gS rfl (gS rfl (gS rfl g0)))))))))))))) (gS rfl (gS rfl (gS rfl (gS rfl (gS rfl (gS rfl (gS rfl (gS rfl (gS rfl (gS rfl (gS rfl (gS rfl (gS rfl g0))))))))))))) (fun g => ?_)
                                                  refine c_region ?_
                                                  refine l_step (y_add (et g0 rfl) rfl (addIN (y := 1) ?_)) ?_
                                                  omega
                                                  exact (by
                                                    refine l_step (y_moveV (et g0 rfl)) ?_
                                                    refine l_nil ?_
                                                    refine fK11 0 2 3 4 6 39 40 41 67 68 69 (gS rfl (gS rfl (gS rfl (gS rfl (gS rfl (gS rfl (gS rfl (gS rfl (gS rfl (gS rfl (gS rfl (gS rfl g0)))))))))))) (gS rfl (gS rfl (gS rfl (gS rfl (gS rfl (gS rfl (gS rfl (gS rfl (gS rfl (gS rfl (gS rfl g0))))))))))) (gS rfl (gS rfl (gS rfl (gS rfl (gS rfl (gS rfl (gS rfl (gS rfl (gS rfl (gS rfl g0)))))))))) (gS rfl (gS rfl (gS rfl (gS rfl (gS rfl (gS rfl (gS rfl (gS rfl (gS rfl g0))))))))) (gS rfl (gS rfl (gS rfl (gS rfl (gS rfl (gS rfl (gS rfl (gS rfl g0)))))))) (gS rfl (gS rfl (gS rfl (gS rfl (gS rfl (gS rfl (gS rfl g0))))))) (gS rfl (gS rfl (gS rfl (gS rfl (gS rfl (gS rfl g0)))))) (gS rfl (gS rfl (gS rfl (gS rfl (gS rfl g0))))) (gS rfl (gS rfl (gS rfl (gS rfl g0)))) (gS rfl (gS rfl (gS rfl g0))) g0 (fun g => ?_)
                                                    exact hK73 (s.now.accts[i].slots.length - ((ij + 1))) _ _ (by omega) ⟨g, _, _, _, (ij + 1), rfl, rfl, by omega, by rw [List.length_append, hclj]; rfl, by rw [List.length_drop, hrlj]; omega, hcpj.snoc hclj hilj rfl ⟨_, _, rfl, n83, n84, hsk, hsv⟩, k68, V73⟩))))))
                                      · skip
                                        
                                        have hilj : ij = s.now.accts[i].slots.length := by have := of_decide_eq_false cB4; omega
                                        obtain rfl : restj = [] := List.length_eq_zero_iff.1 (by rw [hrlj, hilj]; omega)
                                        rw [List.append_nil] at k68
                                        obtain ⟨Hz87, Gz87, hlz87, hez87, hnz87⟩ := G.hold' k68 f68
                                        replace G := Gz87
                                        replace hF := G.fz
                                        replace V30 := V30.ext G.fz hlz87 hnz87 fV30_68
                                        replace hvr9 := hvr9.mono hlz87
                                        replace hvl9 := hvl9.mono hlz87
                                        replace hcp := hcp.mono hlz87
                                        replace hvn9 := hvn9.mono hlz87
                                        replace hvb9 := hvb9.mono hlz87
                                        replace hvc9 := hvc9.mono hlz87
                                        replace hcpj := hcpj.mono hlz87
                                        replace hL0 := hL0.trans hlz87
                                        replace nb2 := fun hh => (hnz87 _ hh).elim nb2 (by omega)
                                        replace nb5 := fun hh => (hnz87 _ hh).elim nb5 (by omega)
                                        replace nb25 := fun hh => (hnz87 _ hh).elim nb25 (by omega)
                                        replace nb37 := fun hh => (hnz87 _ hh).elim nb37 (by omega)
                                        replace nb41 := fun hh => (hnz87 _ hh).elim nb41 (by omega)
                                        have lvFB4 : LV P_slot 2 Hz87 (.slice (some ⟨b68, 0, none⟩) s.now.accts[i].slots.length s.now.accts[i].slots.length) s.now.accts[i].slots := LV.ofNew hez87 (Le.refl _) (by first | with_reducible exact mono_slot | with_reducible exact mono_acct | with_reducible exact mono_tri | with_reducible exact mono_mark) rfl (by omega) (by omega) hcpj.get
                                        refine c_exit ?_
                                        refine hQ72 _ _ _ (in_exit ?_)
                                        refine hK70 _ _ ?_
                                        refine fg8 0 2 3 4 6 39 40 41 (gS rfl (gS rfl (gS rfl (gS rfl (gS rfl (gS rfl (gS rfl (gS rfl (gS rfl (gS rfl (gS rfl g0))))))))))) (gS rfl (gS rfl (gS rfl (gS rfl (gS rfl (gS rfl (gS rfl (gS rfl (gS rfl (gS rfl g0)))))))))) (gS rfl (gS rfl (gS rfl (gS rfl (gS rfl (gS rfl (gS rfl (gS rfl (gS rfl g0))))))))) (gS rfl (gS rfl (gS rfl (gS rfl (gS rfl (gS rfl (gS rfl (gS rfl g0)))))))) (gS rfl (gS rfl (gS rfl (gS rfl (gS rfl (gS rfl (gS rfl g0))))))) (gS rfl (gS rfl (gS rfl (gS rfl (gS rfl (gS rfl g0)))))) (gS rfl (gS rfl (gS rfl (gS rfl (gS rfl g0))))) (gS rfl (gS rfl (gS rfl (gS rfl g0)))) (fun g => ?_)
                                        exact (by
                                          refine c_region ?_
                                          refine l_step (y_fld fld_98_0 (et (gS rfl (gS rfl (gS rfl (gS rfl (gS rfl g0))))) rfl)) ?_
                                          refine l_step (y_load1 one_92 (et g0 rfl) (at1 (k5.cell rfl))) ?_
                                          refine l_step (y_moveV (et (gS rfl (gS rfl (gS rfl (gS rfl (gS rfl (gS rfl g0)))))) rfl)) ?_
                                          refine l_step (y_loadB agg_107 sz_107 (et (gS rfl (gS rfl (gS rfl (gS rfl (gS rfl (gS rfl g0)))))) rfl) (by rw [List.size_toArray, len24]) (at1B k41)) ?_
                                          have hfl : cs.flatten.length = i * 24 := by rw [hcp.len (by omega), hcl]
                                          have hkr : 24 ≤ rest.length := by rw [hrl]; omega
                                          have hPn : P_acct Hz87 (bL (be 20 s.now.accts[i].addr) ++ [.slice nx1 nx2 nx3, .slice ny1 ny2 ny3, .slice za9 s.now.accts[i].code.length zc9, .slice (some ⟨b68, 0, none⟩) s.now.accts[i].slots.length s.now.accts[i].slots.length]) s.now.accts[i] := ⟨_, _, _, _, rfl, hal, hvn9, hvb9, hvc9, lvFB4, hbn, hbb, hbc⟩
                                          refine l_step (y_idxSa rfl Hvaa.underlying92 sz_107 (et (gS rfl (gS rfl g0)) rfl) (et (gS rfl g0) rfl) ?_) ?_
                                          omega
                                          refine l_effN (e_store sz_107 (et g0 rfl) (cellsV (et (gS rfl g0) rfl) rfl) len24 (by exact acct_one hPn) k25 (by (rw [List.size_toArray, List.length_append, hfl, hrl]; omega))) (fun v88 w88 h88 => ?_)
                                          obtain ⟨rfl, x88⟩ := h88
                                          replace k2 := k2.ch x88.ch (by omega)
                                          replace k5 := k5.ch x88.ch (by omega)
                                          replace k37 := k37.ch x88.ch (by omega)
                                          replace k41 := k41.ch x88.ch (by omega)
                                          replace kS := kS.ch x88.ch (by first | omega | (omega))
                                          replace kL := kL.ch x88.ch (by first | omega | (intro q hq hm; have := dL q hq; omega))
                                          replace k25 := x88.blk
                                          replace G := G.wr x88 (by first | exact .inr f25 | omega | (simp; omega)) nb25
                                          replace V30 := V30.wr x88 (by first | exact .inr f25 | omega | (simp; omega)) nb25
                                          replace hF := G.fz
                                          replace U := U.st x88 f25
                                          rw [fill_rec hfl len24 hkr] at k25
                                          refine l_nil ?_
                                          refine hQ35 _ _ _ (in_normal ?_)
                                          refine hK34 _ _ ?_
                                          refine fg6 0 2 3 39 40 41 (gS rfl (gS rfl (gS rfl (gS rfl (gS rfl (gS rfl (gS rfl (gS rfl (gS rfl (gS rfl (gS rfl (gS rfl g0)))))))))))) (gS rfl (gS rfl (gS rfl (gS rfl (gS rfl (gS rfl (gS rfl (gS rfl (gS rfl (gS rfl (gS rfl g0))))))))))) (gS rfl (gS rfl (gS rfl (gS rfl (gS rfl (gS rfl (gS rfl (gS rfl (gS rfl (gS rfl g0)))))))))) (gS rfl (gS rfl (gS rfl (gS rfl (gS rfl (gS rfl (gS rfl g0))))))) (gS rfl (gS rfl (gS rfl (gS rfl (gS rfl (gS rfl g0)))))) (gS rfl (gS rfl (gS rfl (gS rfl (gS rfl g0))))) (fun g => ?_)
                                          refine c_region ?_
                                          refine l_step (y_add (et g0 rfl) rfl (addIN (y := 1) ?_)) ?_
                                          omega
                                          exact (by
                                            refine l_step (y_moveV (et g0 rfl)) ?_
                                            refine l_nil ?_
                                            refine fK6 0 2 3 39 40 41 (gS rfl (gS rfl (gS rfl (gS rfl (gS rfl (gS rfl (gS rfl g0))))))) (gS rfl (gS rfl (gS rfl (gS rfl (gS rfl (gS rfl g0)))))) (gS rfl (gS rfl (gS rfl (gS rfl (gS rfl g0))))) (gS rfl (gS rfl (gS rfl (gS rfl g0)))) (gS rfl (gS rfl (gS rfl g0))) g0 (fun g => ?_)
                                            exact hK30 (s.now.accts.length - ((i + 1))) _ _ (by omega) ⟨g, _, _, _, (i + 1), rfl, rfl, by omega, by rw [List.length_append, hcl]; rfl, by rw [List.length_drop, hrl]; omega, hcp.snoc hcl hil len24 hPn, k25, V30⟩)))))
                            · skip
                              
                              have hzB3 : s.now.accts[i].slots.length = 0 := by
                                cases h9 : ea with
                                | none => exact nil_len (h9 ▸ hvs)
                                | some x => rw [h9] at cB3; cases cB3
                              refine c_skip ?_
                              refine hK65 _ _ ?_
                              refine fg9 0 2 3 4 5 6 39 40 41 (gS rfl (gS rfl (gS rfl (gS rfl (gS rfl (gS rfl (gS rfl (gS rfl (gS rfl g0))))))))) (gS rfl (gS rfl (gS rfl (gS rfl (gS rfl (gS rfl (gS rfl (gS rfl g0)))))))) (gS rfl (gS rfl (gS rfl (gS rfl (gS rfl (gS rfl (gS rfl g0))))))) (gS rfl (gS rfl (gS rfl (gS rfl (gS rfl (gS rfl g0)))))) (gS rfl (gS rfl (gS rfl (gS rfl (gS rfl g0))))) (gS rfl (gS rfl (gS rfl (gS rfl g0)))) (gS rfl (gS rfl (gS rfl g0))) (gS rfl (gS rfl g0)) (gS rfl g0) (fun g => ?_)
                              refine c_seq (fun K89 hK89 => ?_)
                              refine c_seq (fun K90 hK90 => ?_)
                              exact (by
                                refine c_region ?_
                                refine l_step (y_fld fld_107_4 (et (gS rfl (gS rfl (gS rfl (gS rfl g0)))) rfl)) ?_
                                refine l_step (y_load1 one_105 (et g0 rfl) (at1 (k37.cell ((app20 (i := 3) rfl).trans rfl)))) ?_
                                refine l_step (y_len Hvaa.underlying105 (et g0 rfl)) ?_
                                refine l_step y_moveC ?_
                                refine l_nil ?_
                                refine hK90 _ _ ?_
                                refine fg11 0 2 3 4 6 39 40 41 67 68 69 (gS rfl (gS rfl (gS rfl (gS rfl (gS rfl (gS rfl (gS rfl (gS rfl (gS rfl (gS rfl (gS rfl (gS rfl g0)))))))))))) (gS rfl (gS rfl (gS rfl (gS rfl (gS rfl (gS rfl (gS rfl (gS rfl (gS rfl (gS rfl (gS rfl g0))))))))))) (gS rfl (gS rfl (gS rfl (gS rfl (gS rfl (gS rfl (gS rfl (gS rfl (gS rfl (gS rfl g0)))))))))) (gS rfl (gS rfl (gS rfl (gS rfl (gS rfl (gS rfl (gS rfl (gS rfl (gS rfl g0))))))))) (gS rfl (gS rfl (gS rfl (gS rfl (gS rfl (gS rfl (gS rfl g0))))))) (gS rfl (gS rfl (gS rfl (gS rfl (gS rfl (gS rfl g0)))))) (gS rfl (gS rfl (gS rfl (gS rfl (gS rfl g0))))) (gS rfl (gS rfl (gS rfl (gS rfl g0)))) (gS rfl (gS rfl g0)) (gS rfl g0) g0 (fun g => ?_)
                                refine c_block (fun Q91 hQ91 => ?_)
                                refine fg11 0 2 3 4 6 39 40 41 67 68 69 (gS rfl (gS rfl (gS rfl (gS rfl (gS rfl (gS rfl (gS rfl (gS rfl (gS rfl (gS rfl g0)))))))))) (gS rfl (gS rfl (gS rfl (gS rfl (gS rfl (gS rfl (gS rfl (gS rfl (gS rfl g0))))))))) (gS rfl (gS rfl (gS rfl (gS rfl (gS rfl (gS rfl (gS rfl (gS rfl g0)))))))) (gS rfl (gS rfl (gS rfl (gS rfl (gS rfl (gS rfl (gS rfl g0))))))) (gS rfl (gS rfl (gS rfl (gS rfl (gS rfl (gS rfl g0)))))) (gS rfl (gS rfl (gS rfl (gS rfl (gS rfl g0))))) (gS rfl (gS rfl (gS rfl (gS rfl g0)))) (gS rfl (gS rfl (gS rfl g0))) (gS rfl (gS rfl g0)) (gS rfl g0) g0 (fun g => ?_)
                                refine c_loop (fun k_ s_ W92 => ∃ (g : Nat → Value) (Hk92 : Store) (ij : Nat), s_ = (upd (upd (upd (upd (upd (upd (upd (upd (upd (upd (upd g 0 (.pointer (some ⟨bs, 0, none⟩))) 2 (.pointer (some ⟨b2, 0, none⟩))) 3 (.pointer (some ⟨b5, 0, none⟩))) 4 (.int .i64 (i : Nat))) 6 (.pointer (some ⟨b41, 0, none⟩))) 39 (.slice aa s.now.accts.length ac)) 40 (.int .i64 (s.now.accts.length : Nat))) 41 (.int .i64 (i : Nat))) 67 (.slice ea s.now.accts[i].slots.length ec)) 68 (.int .i64 (s.now.accts[i].slots.length : Nat))) 69 (.int .i64 (ij : Nat))) ∧ s.now.accts[i].slots.length - ij = k_ ∧ (ij ≤ s.now.accts[i].slots.length) ∧ Go (fun k => False) w64 Hj40 W92 Hk92) (s.now.accts[i].slots.length - (0)) ?_ ?_
                                · exact ⟨g, _, 0, rfl, rfl, Nat.zero_le _, Go.refl hF⟩
                                · skip
                                  intro k_ s_ W92 hI K92 hK92
                                  obtain ⟨g, Hk92, ij, rfl, rfl, hij, V92⟩ := hI
                                  have hle92 := V92.le
                                  replace nb2 := V92.nb nb2 k2.lt
                                  replace nb5 := V92.nb nb5 k5.lt
                                  replace nb25 := V92.nb nb25 k25.lt
                                  replace nb37 := V92.nb nb37 k37.lt
                                  replace nb41 := V92.nb nb41 k41.lt
                                  replace hvr9 := hvr9.mono hle92
                                  replace hvl9 := hvl9.mono hle92
                                  replace hcp := hcp.mono hle92
                                  replace hvn9 := hvn9.mono hle92
                                  replace hvb9 := hvb9.mono hle92
                                  replace hvc9 := hvc9.mono hle92
                                  replace hL0 := hL0.trans hle92
                                  replace G := G.trans V92 (by intro b hb; first | exact hb.elim | omega | (simp at hb ⊢; omega))
                                  replace V30 := V30.trans V92 (by intro b hb; first | exact hb.elim | omega | (simp at hb ⊢; omega))
                                  replace hF := V92.fz
                                  replace k2 := k2.ch V92.ch (by exact fun h => h)
                                  replace k5 := k5.ch V92.ch (by exact fun h => h)
                                  replace k25 := k25.ch V92.ch (by exact fun h => h)
                                  replace k37 := k37.ch V92.ch (by exact fun h => h)
                                  replace k41 := k41.ch V92.ch (by exact fun h => h)
                                  replace kS := kS.ch V92.ch (by first | exact fun h => h | exact fun _ h => h.elim | exact fun _ _ h => h)
                                  replace kL := kL.ch V92.ch (by first | exact fun h => h | exact fun _ h => h.elim | exact fun _ _ h => h)
                                  replace U := U.cc V92.ch (by intro b hb; first | exact hb.elim | omega | (simp at hb ⊢; omega))
                                  refine c_seq (fun K93 hK93 => ?_)
                                  exact (by
                                    refine c_region ?_
                                    refine l_step (y_lss (et g0 rfl) (et (gS rfl g0) rfl)) ?_
                                    refine l_nil ?_
                                    refine hK93 _ _ ?_
                                    refine c_seq (fun K94 hK94 => ?_)
                                    refine c_cond (et g0 rfl) (fun cB4 => ?_) (fun cB4 => ?_)
                                    · skip
                                      
                                      have := of_decide_eq_true cB4; omega
                                    · skip
                                      
                                      refine c_exit ?_
                                      refine hQ91 _ _ _ (in_exit ?_)
                                      refine hK89 _ _ ?_
                                      refine fg8 0 2 3 4 6 39 40 41 (gS rfl (gS rfl (gS rfl (gS rfl (gS rfl (gS rfl (gS rfl (gS rfl (gS rfl (gS rfl (gS rfl g0))))))))))) (gS rfl (gS rfl (gS rfl (gS rfl (gS rfl (gS rfl (gS rfl (gS rfl (gS rfl (gS rfl g0)))))))))) (gS rfl (gS rfl (gS rfl (gS rfl (gS rfl (gS rfl (gS rfl (gS rfl (gS rfl g0))))))))) (gS rfl (gS rfl (gS rfl (gS rfl (gS rfl (gS rfl (gS rfl (gS rfl g0)))))))) (gS rfl (gS rfl (gS rfl (gS rfl (gS rfl (gS rfl (gS rfl g0))))))) (gS rfl (gS rfl (gS rfl (gS rfl (gS rfl (gS rfl g0)))))) (gS rfl (gS rfl (gS rfl (gS rfl (gS rfl g0))))) (gS rfl (gS rfl (gS rfl (gS rfl g0)))) (fun g => ?_)
                                      exact (by
                                        refine c_region ?_
                                        refine l_step (y_fld fld_98_0 (et (gS rfl (gS rfl (gS rfl (gS rfl (gS rfl g0))))) rfl)) ?_
                                        refine l_step (y_load1 one_92 (et g0 rfl) (at1 (k5.cell rfl))) ?_
                                        refine l_step (y_moveV (et (gS rfl (gS rfl (gS rfl (gS rfl (gS rfl (gS rfl g0)))))) rfl)) ?_
                                        refine l_step (y_loadB agg_107 sz_107 (et (gS rfl (gS rfl (gS rfl (gS rfl (gS rfl (gS rfl g0)))))) rfl) (by rw [List.size_toArray, len24]) (at1B k41)) ?_
                                        have hfl : cs.flatten.length = i * 24 := by rw [hcp.len (by omega), hcl]
                                        have hkr : 24 ≤ rest.length := by rw [hrl]; omega
                                        have hPn : P_acct Hk92 (bL (be 20 s.now.accts[i].addr) ++ [.slice nx1 nx2 nx3, .slice ny1 ny2 ny3, .slice za9 s.now.accts[i].code.length zc9, .slice none 0 0]) s.now.accts[i] := ⟨_, _, _, _, rfl, hal, hvn9, hvb9, hvc9, (by rw [List.length_eq_zero_iff.1 hzB3]; exact LV.nil _ _ _), hbn, hbb, hbc⟩
                                        refine l_step (y_idxSa rfl Hvaa.underlying92 sz_107 (et (gS rfl (gS rfl g0)) rfl) (et (gS rfl g0) rfl) ?_) ?_
                                        omega
                                        refine l_effN (e_store sz_107 (et g0 rfl) (cellsV (et (gS rfl g0) rfl) rfl) len24 (by exact acct_one hPn) k25 (by (rw [List.size_toArray, List.length_append, hfl, hrl]; omega))) (fun v96 w96 h96 => ?_)
                                        obtain ⟨rfl, x96⟩ := h96
                                        replace k2 := k2.ch x96.ch (by omega)
                                        replace k5 := k5.ch x96.ch (by omega)
                                        replace k37 := k37.ch x96.ch (by omega)
                                        replace k41 := k41.ch x96.ch (by omega)
                                        replace kS := kS.ch x96.ch (by first | omega | (omega))
                                        replace kL := kL.ch x96.ch (by first | omega | (intro q hq hm; have := dL q hq; omega))
                                        replace k25 := x96.blk
                                        replace G := G.wr x96 (by first | exact .inr f25 | omega | (simp; omega)) nb25
                                        replace V30 := V30.wr x96 (by first | exact .inr f25 | omega | (simp; omega)) nb25
                                        replace hF := G.fz
                                        replace U := U.st x96 f25
                                        rw [fill_rec hfl len24 hkr] at k25
                                        refine l_nil ?_
                                        refine hQ35 _ _ _ (in_normal ?_)
                                        refine hK34 _ _ ?_
                                        refine fg6 0 2 3 39 40 41 (gS rfl (gS rfl (gS rfl (gS rfl (gS rfl (gS rfl (gS rfl (gS rfl (gS rfl (gS rfl (gS rfl (gS rfl g0)))))))))))) (gS rfl (gS rfl (gS rfl (gS rfl (gS rfl (gS rfl (gS rfl (gS rfl (gS rfl (gS rfl (gS rfl g0))))))))))) (gS rfl (gS rfl (gS rfl (gS rfl (gS rfl (gS rfl (gS rfl (gS rfl (gS rfl (gS rfl g0)))))))))) (gS rfl (gS rfl (gS rfl (gS rfl (gS rfl (gS rfl (gS rfl g0))))))) (gS rfl (gS rfl (gS rfl (gS rfl (gS rfl (gS rfl g0)))))) (gS rfl (gS rfl (gS rfl (gS rfl (gS rfl g0))))) (fun g => ?_)
                                        refine c_region ?_
                                        refine l_step (y_add (et g0 rfl) rfl (addIN (y := 1) ?_)) ?_
                                        omega
                                        exact (by
                                          refine l_step (y_moveV (et g0 rfl)) ?_
                                          refine l_nil ?_
                                          refine fK6 0 2 3 39 40 41 (gS rfl (gS rfl (gS rfl (gS rfl (gS rfl (gS rfl (gS rfl g0))))))) (gS rfl (gS rfl (gS rfl (gS rfl (gS rfl (gS rfl g0)))))) (gS rfl (gS rfl (gS rfl (gS rfl (gS rfl g0))))) (gS rfl (gS rfl (gS rfl (gS rfl g0)))) (gS rfl (gS rfl (gS rfl g0))) g0 (fun g => ?_)
                                          exact hK30 (s.now.accts.length - ((i + 1))) _ _ (by omega) ⟨g, _, _, _, (i + 1), rfl, rfl, by omega, by rw [List.length_append, hcl]; rfl, by rw [List.length_drop, hrl]; omega, hcp.snoc hcl hil len24 hPn, k25, V30⟩))))))))
                  · skip
                    
                    have hil : i = s.now.accts.length := by have := of_decide_eq_false cB2; omega
                    obtain rfl : rest = [] := List.length_eq_zero_iff.1 (by rw [hrl, hil]; omega)
                    rw [List.append_nil] at k25
                    obtain ⟨Hz97, Gz97, hlz97, hez97, hnz97⟩ := G.hold' k25 f25
                    replace G := Gz97
                    replace hF := G.fz
                    replace hvr9 := hvr9.mono hlz97
                    replace hvl9 := hvl9.mono hlz97
                    replace hcp := hcp.mono hlz97
                    replace hL0 := hL0.trans hlz97
                    replace nb2 := fun hh => (hnz97 _ hh).elim nb2 (by omega)
                    replace nb5 := fun hh => (hnz97 _ hh).elim nb5 (by omega)
                    have lvFB2 : LV P_acct 24 Hz97 (.slice (some ⟨b25, 0, none⟩) s.now.accts.length s.now.accts.length) s.now.accts := LV.ofNew hez97 (Le.refl _) (by first | with_reducible exact mono_slot | with_reducible exact mono_acct | with_reducible exact mono_tri | with_reducible exact mono_mark) rfl (by omega) (by omega) hcp.get
                    refine c_exit ?_
                    refine hQ29 _ _ _ (in_exit ?_)
                    refine hK27 _ _ ?_
                    refine fg3 0 2 3 (gS rfl (gS rfl (gS rfl (gS rfl (gS rfl (gS rfl g0)))))) (gS rfl (gS rfl (gS rfl (gS rfl (gS rfl g0))))) (gS rfl (gS rfl (gS rfl (gS rfl g0)))) (fun g => ?_)
                    refine c_seq (fun K98 hK98 => ?_)
                    exact (by
                      refine c_region ?_
                      refine l_step (y_moveV (et (gS rfl (gS rfl g0)) rfl)) ?_
                      refine l_step (y_nil (et g0 rfl)) ?_
                      refine l_step (y_fld fld_98_1 (et g0 rfl)) ?_
                      refine l_step (y_load1 one_93 (et g0 rfl) (at1 (kS.cell (rS 1 _ rfl)))) ?_
                      refine l_eff (e_callV cal_218 (aC (et g0 rfl) aN) (yp_addrsOf hF (hWA.mono hL0) (by omega))) (fun v99 w99 h99 => ?_)
                      obtain ⟨H99, g99, lv99⟩ := h99
                      have hlew99 := g99.le
                      replace nb2 := g99.nb nb2 k2.lt
                      replace nb5 := g99.nb nb5 k5.lt
                      replace hvr9 := hvr9.mono hlew99
                      replace hvl9 := hvl9.mono hlew99
                      replace lvFB2 := lvFB2.mono hlew99
                      replace hL0 := hL0.trans hlew99
                      replace k2 := k2.up g99.up
                      replace k5 := k5.up g99.up
                      replace kS := kS.up g99.up
                      replace kL := kL.up g99.up
                      replace U := U.tr g99.up
                      replace G := G.tr g99
                      replace hF := g99.fz
                      obtain ⟨xa99, xc99, rfl, hxl99, hxc99⟩ := lv99.val
                      refine l_step (y_fld fld_98_1 (et (gS rfl (gS rfl (gS rfl (gS rfl (gS rfl g0))))) rfl)) ?_
                      refine l_effN (e_store sz_93 (et g0 rfl) (cellsV (et (gS rfl g0) rfl) rfl) rfl (by first | exact one_bL _ | exact one_uL _ | (intro v hv; simp at hv; subst hv; rfl)) k5 (by first | exact Nat.le_of_ble_eq_true rfl | simp | omega)) (fun v100 w100 h100 => ?_)
                      obtain ⟨rfl, x100⟩ := h100
                      replace k2 := k2.ch x100.ch (by omega)
                      replace kS := kS.ch x100.ch (by first | omega | (omega))
                      replace kL := kL.ch x100.ch (by first | omega | (intro q hq hm; have := dL q hq; omega))
                      replace k5 := x100.blk
                      replace G := G.wr x100 (by first | exact .inr f5 | omega | (simp; omega)) nb5
                      replace hF := G.fz
                      replace U := U.st x100 f5
                      replace k5 : Blk w100 b5 [.slice (some ⟨b25, 0, none⟩) s.now.accts.length s.now.accts.length, .slice xa99 s.now.warmA.length xc99, .slice none 0 0, .slice ra1 ra2 ra3, .slice ya yn yn, .slice none 0 0, .slice none 0 0, .slice none 0 0].toArray := k5
                      refine l_nil ?_
                      refine hK98 _ _ ?_
                      refine fg3 0 2 3 (gS rfl (gS rfl (gS rfl (gS rfl (gS rfl (gS rfl (gS rfl (gS rfl g0)))))))) (gS rfl (gS rfl (gS rfl (gS rfl (gS rfl (gS rfl (gS rfl g0))))))) (gS rfl (gS rfl (gS rfl (gS rfl (gS rfl (gS rfl g0)))))) (fun g => ?_)
                      refine c_seq (fun K101 hK101 => ?_)
                      exact (by
                        refine c_region ?_
                        refine l_step (y_moveV (et (gS rfl (gS rfl g0)) rfl)) ?_
                        refine l_step (y_nil (et g0 rfl)) ?_
                        refine l_step (y_fld fld_98_6 (et g0 rfl)) ?_
                        refine l_step (y_load1 one_93 (et g0 rfl) (at1 (kS.cell (rS 6 _ rfl)))) ?_
                        refine l_eff (e_callV cal_218 (aC (et g0 rfl) aN) (yp_addrsOf hF (hMd.mono hL0) (by omega))) (fun v102 w102 h102 => ?_)
                        obtain ⟨H102, g102, lv102⟩ := h102
                        have hlew102 := g102.le
                        replace nb2 := g102.nb nb2 k2.lt
                        replace nb5 := g102.nb nb5 k5.lt
                        replace hvr9 := hvr9.mono hlew102
                        replace hvl9 := hvl9.mono hlew102
                        replace lvFB2 := lvFB2.mono hlew102
                        replace lv99 := lv99.mono hlew102
                        replace hL0 := hL0.trans hlew102
                        replace k2 := k2.up g102.up
                        replace k5 := k5.up g102.up
                        replace kS := kS.up g102.up
                        replace kL := kL.up g102.up
                        replace U := U.tr g102.up
                        replace G := G.tr g102
                        replace hF := g102.fz
                        obtain ⟨xa102, xc102, rfl, hxl102, hxc102⟩ := lv102.val
                        refine l_step (y_fld fld_98_6 (et (gS rfl (gS rfl (gS rfl (gS rfl (gS rfl g0))))) rfl)) ?_
                        refine l_effN (e_store sz_93 (et g0 rfl) (cellsV (et (gS rfl g0) rfl) rfl) rfl (by first | exact one_bL _ | exact one_uL _ | (intro v hv; simp at hv; subst hv; rfl)) k5 (by first | exact Nat.le_of_ble_eq_true rfl | simp | omega)) (fun v103 w103 h103 => ?_)
                        obtain ⟨rfl, x103⟩ := h103
                        replace k2 := k2.ch x103.ch (by omega)
                        replace kS := kS.ch x103.ch (by first | omega | (omega))
                        replace kL := kL.ch x103.ch (by first | omega | (intro q hq hm; have := dL q hq; omega))
                        replace k5 := x103.blk
                        replace G := G.wr x103 (by first | exact .inr f5 | omega | (simp; omega)) nb5
                        replace hF := G.fz
                        replace U := U.st x103 f5
                        replace k5 : Blk w103 b5 [.slice (some ⟨b25, 0, none⟩) s.now.accts.length s.now.accts.length, .slice xa99 s.now.warmA.length xc99, .slice none 0 0, .slice ra1 ra2 ra3, .slice ya yn yn, .slice none 0 0, .slice xa102 s.now.made.length xc102, .slice none 0 0].toArray := k5
                        refine l_nil ?_
                        refine hK101 _ _ ?_
                        refine fg3 0 2 3 (gS rfl (gS rfl (gS rfl (gS rfl (gS rfl (gS rfl (gS rfl (gS rfl g0)))))))) (gS rfl (gS rfl (gS rfl (gS rfl (gS rfl (gS rfl (gS rfl g0))))))) (gS rfl (gS rfl (gS rfl (gS rfl (gS rfl (gS rfl g0)))))) (fun g => ?_)
                        refine c_seq (fun K104 hK104 => ?_)
                        exact (by
                          refine c_region ?_
                          refine l_step (y_moveV (et (gS rfl (gS rfl g0)) rfl)) ?_
                          refine l_step (y_nil (et g0 rfl)) ?_
                          refine l_step (y_fld fld_98_7 (et g0 rfl)) ?_
                          refine l_step (y_load1 one_93 (et g0 rfl) (at1 (kS.cell (rS 7 _ rfl)))) ?_
                          refine l_eff (e_callV cal_218 (aC (et g0 rfl) aN) (yp_addrsOf hF (hGn.mono hL0) (by omega))) (fun v105 w105 h105 => ?_)
                          obtain ⟨H105, g105, lv105⟩ := h105
                          have hlew105 := g105.le
                          replace nb2 := g105.nb nb2 k2.lt
                          replace nb5 := g105.nb nb5 k5.lt
                          replace hvr9 := hvr9.mono hlew105
                          replace hvl9 := hvl9.mono hlew105
                          replace lvFB2 := lvFB2.mono hlew105
                          replace lv99 := lv99.mono hlew105
                          replace lv102 := lv102.mono hlew105
                          replace hL0 := hL0.trans hlew105
                          replace k2 := k2.up g105.up
                          replace k5 := k5.up g105.up
                          replace kS := kS.up g105.up
                          replace kL := kL.up g105.up
                          replace U := U.tr g105.up
                          replace G := G.tr g105
                          replace hF := g105.fz
                          obtain ⟨xa105, xc105, rfl, hxl105, hxc105⟩ := lv105.val
                          refine l_step (y_fld fld_98_7 (et (gS rfl (gS rfl (gS rfl (gS rfl (gS rfl g0))))) rfl)) ?_
                          refine l_effN (e_store sz_93 (et g0 rfl) (cellsV (et (gS rfl g0) rfl) rfl) rfl (by first | exact one_bL _ | exact one_uL _ | (intro v hv; simp at hv; subst hv; rfl)) k5 (by first | exact Nat.le_of_ble_eq_true rfl | simp | omega)) (fun v106 w106 h106 => ?_)
                          obtain ⟨rfl, x106⟩ := h106
                          replace k2 := k2.ch x106.ch (by omega)
                          replace kS := kS.ch x106.ch (by first | omega | (omega))
                          replace kL := kL.ch x106.ch (by first | omega | (intro q hq hm; have := dL q hq; omega))
                          replace k5 := x106.blk
                          replace G := G.wr x106 (by first | exact .inr f5 | omega | (simp; omega)) nb5
                          replace hF := G.fz
                          replace U := U.st x106 f5
                          replace k5 : Blk w106 b5 [.slice (some ⟨b25, 0, none⟩) s.now.accts.length s.now.accts.length, .slice xa99 s.now.warmA.length xc99, .slice none 0 0, .slice ra1 ra2 ra3, .slice ya yn yn, .slice none 0 0, .slice xa102 s.now.made.length xc102, .slice xa105 s.now.gone.length xc105].toArray := k5
                          refine l_nil ?_
                          refine hK104 _ _ ?_
                          refine fg3 0 2 3 (gS rfl (gS rfl (gS rfl (gS rfl (gS rfl (gS rfl (gS rfl (gS rfl g0)))))))) (gS rfl (gS rfl (gS rfl (gS rfl (gS rfl (gS rfl (gS rfl g0))))))) (gS rfl (gS rfl (gS rfl (gS rfl (gS rfl (gS rfl g0)))))) (fun g => ?_)
                          refine c_seq (fun K107 hK107 => ?_)
                          refine c_seq (fun K108 hK108 => ?_)
                          exact (by
                            refine c_region ?_
                            refine l_step (y_moveV (et (gS rfl (gS rfl g0)) rfl)) ?_
                            refine l_step (y_nil (et g0 rfl)) ?_
                            refine l_step (y_fld fld_98_5 (et g0 rfl)) ?_
                            refine l_step (y_load1 one_96 (et g0 rfl) (at1 (kS.cell (rS 5 _ rfl)))) ?_
                            refine l_step (y_neqNS Hvaa.underlying96 (et g0 rfl) rfl) ?_
                            refine l_nil ?_
                            refine hK108 _ _ ?_
                            refine fg4 0 2 3 114 (gS rfl (gS rfl (gS rfl (gS rfl (gS rfl (gS rfl (gS rfl g0))))))) (gS rfl (gS rfl (gS rfl (gS rfl (gS rfl (gS rfl g0)))))) (gS rfl (gS rfl (gS rfl (gS rfl (gS rfl g0))))) g0 (fun g => ?_)
                            refine c_cond (et g0 rfl) (fun cB5 => ?_) (fun cB5 => ?_)
                            · skip
                              
                              have hnB5 : ta ≠ none := fun e => by rw [e] at cB5; cases cB5
                              exact (by
                                refine c_region ?_
                                refine l_step (y_moveV (et (gS rfl (gS rfl (gS rfl g0))) rfl)) ?_
                                refine l_step (y_nil (et g0 rfl)) ?_
                                refine l_step (y_fld fld_98_5 (et g0 rfl)) ?_
                                refine l_step (y_load1 one_96 (et g0 rfl) (at1 (kS.cell (rS 5 _ rfl)))) ?_
                                refine l_step (y_len Hvaa.underlying96 (et g0 rfl)) ?_
                                refine l_eff (e_make Hvaa.underlying96 sz_295 zr_295 by_295 (et g0 rfl) (et g0 rfl) (by omega) (by omega)) (fun v110 w110 h110 => ?_)
                                obtain ⟨b110, rfl, n110⟩ := h110
                                have d2_110 : b2 < b110 := Nat.lt_of_lt_of_le k2.lt n110.fresh
                                have d5_110 : b5 < b110 := Nat.lt_of_lt_of_le k5.lt n110.fresh
                                have f110 : w.heap.size ≤ b110 := Nat.le_trans U.size n110.fresh
                                have nb110 := hF.nb n110.fresh
                                replace G := G.tr (Go.ofUp hF n110.up)
                                replace hF := hF.up n110.up
                                replace k2 := k2.up n110.up
                                replace k5 := k5.up n110.up
                                replace kS := kS.up n110.up
                                replace kL := kL.up n110.up
                                replace U := U.tr n110.up
                                have k110 := n110.blk
                                obtain ⟨rest0t, hr0t, k110⟩ := made_list k110
                                refine l_step (y_fld fld_98_5 (et (gS rfl (gS rfl (gS rfl (gS rfl (gS rfl (gS rfl (gS rfl g0))))))) rfl)) ?_
                                refine l_effN (e_store sz_96 (et g0 rfl) (cellsV (et (gS rfl g0) rfl) rfl) rfl (by first | exact one_bL _ | exact one_uL _ | (intro v hv; simp at hv; subst hv; rfl)) k5 (by first | exact Nat.le_of_ble_eq_true rfl | simp | omega)) (fun v111 w111 h111 => ?_)
                                obtain ⟨rfl, x111⟩ := h111
                                replace k2 := k2.ch x111.ch (by omega)
                                replace k110 := k110.ch x111.ch (by omega)
                                replace kS := kS.ch x111.ch (by first | omega | (omega))
                                replace kL := kL.ch x111.ch (by first | omega | (intro q hq hm; have := dL q hq; omega))
                                replace k5 := x111.blk
                                replace G := G.wr x111 (by first | exact .inr f5 | omega | (simp; omega)) nb5
                                replace hF := G.fz
                                replace U := U.st x111 f5
                                replace k5 : Blk w111 b5 [.slice (some ⟨b25, 0, none⟩) s.now.accts.length s.now.accts.length, .slice xa99 s.now.warmA.length xc99, .slice none 0 0, .slice ra1 ra2 ra3, .slice ya yn yn, .slice (some ⟨b110, 0, none⟩) s.now.temps.length s.now.temps.length, .slice xa102 s.now.made.length xc102, .slice xa105 s.now.gone.length xc105].toArray := k5
                                refine l_nil ?_
                                refine hK107 _ _ ?_
                                refine fg3 0 2 3 (gS rfl (gS rfl (gS rfl (gS rfl (gS rfl (gS rfl (gS rfl (gS rfl (gS rfl (gS rfl g0)))))))))) (gS rfl (gS rfl (gS rfl (gS rfl (gS rfl (gS rfl (gS rfl (gS rfl (gS rfl g0))))))))) (gS rfl (gS rfl (gS rfl (gS rfl (gS rfl (gS rfl (gS rfl (gS rfl g0)))))))) (fun g => ?_)
                                refine c_seq (fun K112 hK112 => ?_)
                                refine c_seq (fun K113 hK113 => ?_)
                                exact (by
                                  refine c_region ?_
                                  refine l_step (y_moveV (et (gS rfl (gS rfl g0)) rfl)) ?_
                                  refine l_step (y_nil (et g0 rfl)) ?_
                                  refine l_step (y_fld fld_98_5 (et g0 rfl)) ?_
                                  refine l_step (y_load1 one_96 (et g0 rfl) (at1 (kS.cell (rS 5 _ rfl)))) ?_
                                  refine l_step (y_len Hvaa.underlying96 (et g0 rfl)) ?_
                                  refine l_step y_moveC ?_
                                  refine l_nil ?_
                                  refine hK113 _ _ ?_
                                  refine fg6 0 2 3 125 126 127 (gS rfl (gS rfl (gS rfl (gS rfl (gS rfl (gS rfl (gS rfl (gS rfl g0)))))))) (gS rfl (gS rfl (gS rfl (gS rfl (gS rfl (gS rfl (gS rfl g0))))))) (gS rfl (gS rfl (gS rfl (gS rfl (gS rfl (gS rfl g0)))))) (gS rfl (gS rfl g0)) (gS rfl g0) g0 (fun g => ?_)
                                  refine c_block (fun Q114 hQ114 => ?_)
                                  refine fg6 0 2 3 125 126 127 (gS rfl (gS rfl (gS rfl (gS rfl (gS rfl g0))))) (gS rfl (gS rfl (gS rfl (gS rfl g0)))) (gS rfl (gS rfl (gS rfl g0))) (gS rfl (gS rfl g0)) (gS rfl g0) g0 (fun g => ?_)
                                  refine c_loop (fun k_ s_ W115 => ∃ (g : Nat → Value) (Hk115 : Store) (cs : List (List Value)) (rest : List Value) (i : Nat), s_ = (upd (upd (upd (upd (upd (upd g 0 (.pointer (some ⟨bs, 0, none⟩))) 2 (.pointer (some ⟨b2, 0, none⟩))) 3 (.pointer (some ⟨b5, 0, none⟩))) 125 (.slice ta s.now.temps.length tc)) 126 (.int .i64 (s.now.temps.length : Nat))) 127 (.int .i64 (i : Nat))) ∧ s.now.temps.length - i = k_ ∧ (i ≤ s.now.temps.length) ∧ (cs.length = i) ∧ (rest.length = (s.now.temps.length - i) * 22) ∧ (CP P_tri 22 Hk115 cs s.now.temps) ∧ Blk W115 b110 ((cs.flatten ++ rest).toArray) ∧ Go (fun k => k = b110) w111 H105 W115 Hk115) (s.now.temps.length - (0)) ?_ ?_
                                  · exact ⟨g, _, [], rest0t, 0, rfl, rfl, Nat.zero_le _, rfl, by rw [hr0t, Nat.sub_zero], CP.nil _ _ _ _, k110, Go.refl hF⟩
                                  · skip
                                    intro k_ s_ W115 hI K115 hK115
                                    obtain ⟨g, Hk115, cs, rest, i, rfl, rfl, hi, hcl, hrl, hcp, nk110, V115⟩ := hI
                                    have hle115 := V115.le
                                    replace nb2 := V115.nb nb2 k2.lt
                                    replace nb5 := V115.nb nb5 k5.lt
                                    replace nb110 := V115.nb nb110 k110.lt
                                    replace hvr9 := hvr9.mono hle115
                                    replace hvl9 := hvl9.mono hle115
                                    replace lvFB2 := lvFB2.mono hle115
                                    replace lv99 := lv99.mono hle115
                                    replace lv102 := lv102.mono hle115
                                    replace lv105 := lv105.mono hle115
                                    replace hL0 := hL0.trans hle115
                                    replace G := G.trans V115 (by intro b hb; first | exact hb.elim | omega | (simp at hb ⊢; omega))
                                    replace hF := V115.fz
                                    replace k2 := k2.ch V115.ch (by omega)
                                    replace k5 := k5.ch V115.ch (by omega)
                                    replace kS := kS.ch V115.ch (by omega)
                                    replace kL := kL.ch V115.ch (by intro q hq hm; have := dL q hq; omega)
                                    replace k110 := nk110
                                    replace U := U.cc V115.ch (by intro b hb; first | exact hb.elim | omega | (simp at hb ⊢; omega))
                                    refine c_seq (fun K116 hK116 => ?_)
                                    exact (by
                                      refine c_region ?_
                                      refine l_step (y_lss (et g0 rfl) (et (gS rfl g0) rfl)) ?_
                                      refine l_nil ?_
                                      refine hK116 _ _ ?_
                                      refine c_seq (fun K117 hK117 => ?_)
                                      refine c_cond (et g0 rfl) (fun cB6 => ?_) (fun cB6 => ?_)
                                      · skip
                                        
                                        have hil : i < s.now.temps.length := by have := of_decide_eq_true cB6; omega
                                        refine c_skip ?_
                                        refine hK117 _ _ ?_
                                        refine fg6 0 2 3 125 126 127 (gS rfl (gS rfl (gS rfl (gS rfl (gS rfl (gS rfl g0)))))) (gS rfl (gS rfl (gS rfl (gS rfl (gS rfl g0))))) (gS rfl (gS rfl (gS rfl (gS rfl g0)))) (gS rfl (gS rfl (gS rfl g0))) (gS rfl (gS rfl g0)) (gS rfl g0) (fun g => ?_)
                                        refine c_seq (fun K119 hK119 => ?_)
                                        refine c_block (fun Q120 hQ120 => ?_)
                                        refine c_seq (fun K121 hK121 => ?_)
                                        exact (by
                                          refine c_region ?_
                                          refine l_step (y_moveV (et g0 rfl)) ?_
                                          have hF0 := hF.of hL0
                                          obtain ⟨bq, oq, r, ha0, hrow, hrr, vk, vv, hr1, hvk, hvv, hta, htk, htv⟩ := hTm.row hF0 (i := i) hil
                                          rw [hr1] at hrow hrr
                                          obtain ⟨ka1, ka2, ka3, rfl⟩ := hvk.sl
                                          obtain ⟨kb1, kb2, kb3, rfl⟩ := hvv.sl
                                          refine l_step (y_idxSa ha0 Hvaa.underlying96 sz_295 (et (gS rfl (gS rfl (gS rfl g0))) rfl) (et (gS rfl g0) rfl) ?_) ?_
                                          omega
                                          refine l_step (y_loadR agg_295 sz_295 (et g0 rfl) len22 (at1R hrow)) ?_
                                          refine l_eff (e_alloc zr_295) (fun v122 w122 h122 => ?_)
                                          obtain ⟨b122, rfl, n122⟩ := h122
                                          have d2_122 : b2 < b122 := Nat.lt_of_lt_of_le k2.lt n122.fresh
                                          have d5_122 : b5 < b122 := Nat.lt_of_lt_of_le k5.lt n122.fresh
                                          have d110_122 : b110 < b122 := Nat.lt_of_lt_of_le k110.lt n122.fresh
                                          have f122 : w.heap.size ≤ b122 := Nat.le_trans U.size n122.fresh
                                          have nb122 := hF.nb n122.fresh
                                          have fV115_122 := Nat.le_trans V115.ch.size n122.fresh
                                          replace G := G.tr (Go.ofUp hF n122.up)
                                          replace V115 := V115.tr (Go.ofUp hF n122.up)
                                          replace hF := hF.up n122.up
                                          replace k2 := k2.up n122.up
                                          replace k5 := k5.up n122.up
                                          replace k110 := k110.up n122.up
                                          replace kS := kS.up n122.up
                                          replace kL := kL.up n122.up
                                          replace U := U.tr n122.up
                                          have k122 := n122.blk
                                          refine l_step (y_assignV (et (gS rfl (gS rfl (gS rfl g0))) rfl)) ?_
                                          refine l_effN (e_store sz_295 (et (gS rfl g0) rfl) (cellsV (et (gS rfl (gS rfl g0)) rfl) rfl) len22 (by exact one_app (one_two rfl rfl)) k122 (by exact Nat.le_of_ble_eq_true rfl)) (fun v123 w123 h123 => ?_)
                                          obtain ⟨rfl, x123⟩ := h123
                                          replace k2 := k2.ch x123.ch (by omega)
                                          replace k5 := k5.ch x123.ch (by omega)
                                          replace k110 := k110.ch x123.ch (by omega)
                                          replace kS := kS.ch x123.ch (by first | omega | (omega))
                                          replace kL := kL.ch x123.ch (by first | omega | (intro q hq hm; have := dL q hq; omega))
                                          replace k122 := x123.blk.full (by rw [len22]; rfl)
                                          replace G := G.wr x123 (by first | exact .inr f122 | omega | (simp; omega)) nb122
                                          replace V115 := V115.wr x123 (by first | exact .inr f122 | omega | (simp; omega)) nb122
                                          replace hF := G.fz
                                          replace U := U.st x123 f122
                                          refine l_nil ?_
                                          refine hK121 _ _ ?_
                                          refine fg8 0 2 3 125 126 127 10 9 (gS rfl (gS rfl (gS rfl (gS rfl (gS rfl (gS rfl (gS rfl (gS rfl (gS rfl (gS rfl g0)))))))))) (gS rfl (gS rfl (gS rfl (gS rfl (gS rfl (gS rfl (gS rfl (gS rfl (gS rfl g0))))))))) (gS rfl (gS rfl (gS rfl (gS rfl (gS rfl (gS rfl (gS rfl (gS rfl g0)))))))) (gS rfl (gS rfl (gS rfl (gS rfl (gS rfl (gS rfl (gS rfl g0))))))) (gS rfl (gS rfl (gS rfl (gS rfl (gS rfl (gS rfl g0)))))) (gS rfl (gS rfl (gS rfl (gS rfl (gS rfl g0))))) (gS rfl g0) g0 (fun g => ?_)
                                          refine c_draw Up 13 [(0, true), (1, true), (2, true), (3, true), (4, true), (5, true), (6, true), (8, true), (9, true), (7, false), (10, false), (11, true), (12, true), (13, false)] (by kernel_rfl) (fun w124 hu => ⟨Up.refl _, ?_⟩)
                                          replace G := G.tr (Go.ofUp hF hu)
                                          replace V115 := V115.tr (Go.ofUp hF hu)
                                          replace hF := hF.up hu
                                          replace k2 := k2.up hu
                                          replace k5 := k5.up hu
                                          replace k110 := k110.up hu
                                          replace k122 := k122.up hu
                                          replace kS := kS.up hu
                                          replace kL := kL.up hu
                                          replace U := U.tr hu
                                          have SU := Up.refl w124
                                          exact (by
                                            refine p_step (by exact rfl) (y_fld fld_98_5 (et (gS rfl (gS rfl (gS rfl (gS rfl (gS rfl g0))))) rfl)) ?_
                                            refine p_step (by exact rfl) (y_load1 one_96 (et g0 rfl) (atS (k5.cell rfl))) ?_
                                            refine p_step (by exact rfl) (y_moveV (et (gS rfl (gS rfl g0)) rfl)) ?_
                                            refine p_step (by exact rfl) (y_fld fld_295_0 (et (gS rfl (gS rfl (gS rfl (gS rfl g0)))) rfl)) ?_
                                            refine p_step (by exact rfl) (y_loadR agg_25 sz_25 (et g0 rfl) (by rw [length_bL, length_be]) (atSR (k122.row addr_row))) ?_
                                            refine p_step (by exact rfl) (y_fld fld_295_1 (et (gS rfl (gS rfl (gS rfl (gS rfl (gS rfl (gS rfl g0)))))) rfl)) ?_
                                            refine p_step (by exact rfl) (y_load1 one_95 (et g0 rfl) (atS (k122.cell ((app20 (i := 0) rfl).trans rfl)))) ?_
                                            refine p_step (by exact rfl) (y_fld fld_295_2 (et (gS rfl (gS rfl (gS rfl (gS rfl (gS rfl (gS rfl (gS rfl (gS rfl g0)))))))) rfl)) ?_
                                            refine p_step (by exact rfl) (y_load1 one_95 (et g0 rfl) (atS (k122.cell ((app20 (i := 1) rfl).trans rfl)))) ?_
                                            refine p_eff (by exact rfl) (e_callV cal_217 (aC (et (gS rfl (gS rfl g0)) rfl) aN) (yp_natOf hF (hvk.mono hL0) (bd_up (bd_W htk) (by decide)))) (fun v125 w125 h125 => ?_)
                                            obtain ⟨H125, g125, n125⟩ := h125
                                            have hlew125 := g125.le
                                            replace nb2 := g125.nb nb2 k2.lt
                                            replace nb5 := g125.nb nb5 k5.lt
                                            replace nb110 := g125.nb nb110 k110.lt
                                            replace nb122 := g125.nb nb122 k122.lt
                                            replace hvr9 := hvr9.mono hlew125
                                            replace hvl9 := hvl9.mono hlew125
                                            replace lvFB2 := lvFB2.mono hlew125
                                            replace lv99 := lv99.mono hlew125
                                            replace lv102 := lv102.mono hlew125
                                            replace lv105 := lv105.mono hlew125
                                            replace hcp := hcp.mono hlew125
                                            replace hL0 := hL0.trans hlew125
                                            replace k2 := k2.up g125.up
                                            replace k5 := k5.up g125.up
                                            replace k110 := k110.up g125.up
                                            replace k122 := k122.up g125.up
                                            replace kS := kS.up g125.up
                                            replace kL := kL.up g125.up
                                            replace U := U.tr g125.up
                                            replace G := G.tr g125
                                            replace V115 := V115.tr g125
                                            replace hF := g125.fz
                                            obtain ⟨na125, nn125, nc125, rfl⟩ := n125.sl
                                            refine ⟨.inr (SU.tr g125.up), ?_⟩
                                            replace SU := SU.tr g125.up
                                            exact (by
                                              refine p_eff (by exact rfl) (e_callV cal_217 (aC (et (gS rfl g0) rfl) aN) (yp_natOf hF (hvv.mono hL0) (bd_up (bd_W htv) (by decide)))) (fun v126 w126 h126 => ?_)
                                              obtain ⟨H126, g126, n126⟩ := h126
                                              have hlew126 := g126.le
                                              replace nb2 := g126.nb nb2 k2.lt
                                              replace nb5 := g126.nb nb5 k5.lt
                                              replace nb110 := g126.nb nb110 k110.lt
                                              replace nb122 := g126.nb nb122 k122.lt
                                              replace hvr9 := hvr9.mono hlew126
                                              replace hvl9 := hvl9.mono hlew126
                                              replace lvFB2 := lvFB2.mono hlew126
                                              replace lv99 := lv99.mono hlew126
                                              replace lv102 := lv102.mono hlew126
                                              replace lv105 := lv105.mono hlew126
                                              replace hcp := hcp.mono hlew126
                                              replace n125 := n125.mono hlew126
                                              replace hL0 := hL0.trans hlew126
                                              replace k2 := k2.up g126.up
                                              replace k5 := k5.up g126.up
                                              replace k110 := k110.up g126.up
                                              replace k122 := k122.up g126.up
                                              replace kS := kS.up g126.up
                                              replace kL := kL.up g126.up
                                              replace U := U.tr g126.up
                                              replace G := G.tr g126
                                              replace V115 := V115.tr g126
                                              replace hF := g126.fz
                                              obtain ⟨na126, nn126, nc126, rfl⟩ := n126.sl
                                              refine ⟨.inr (SU.tr g126.up), ?_⟩
                                              replace SU := SU.tr g126.up
                                              have hb127 : ∀ w, (Instr.build 295 ([(0, (Value.agg (bL (be 20 s.now.temps[i].1)).toArray)), (1, (.slice na125 nn125 nc125)), (2, (.slice na126 nn126 nc126))] : List (Nat × Value)).toArray).run Hvaa.prog w = .ok (.agg ([(bL (be 20 s.now.temps[i].1)), ([(.slice na125 nn125 nc125)]), ([(.slice na126 nn126 nc126)])] : List (List Value)).flatten.toArray) w := bld_run zr_295 plc_295 (fill_flat (off := 0) (k := 20) (f := (List.replicate 20 (.int .u8 0))) (c := bL (be 20 s.now.temps[i].1)) (v := (Value.agg (bL (be 20 s.now.temps[i].1)).toArray)) rfl rfl (by first | (simp [length_bL, length_be, length_uL]; done) | rfl) (by first | rfl | (simp [length_bL, length_be, length_uL]; done)) rfl (by first | (simp [length_bL, length_be, length_uL]; done) | rfl) (fill_flat (off := 20) (k := 1) (f := [.slice none 0 0]) (c := [(.slice na125 nn125 nc125)]) (v := (.slice na125 nn125 nc125)) rfl rfl (by first | (simp [length_bL, length_be, length_uL]; done) | rfl) (by first | (simp [length_bL, length_be, length_uL]; done) | rfl) rfl (by first | (simp [length_bL, length_be, length_uL]; done) | rfl) (fill_flat (off := 21) (k := 1) (f := [.slice none 0 0]) (c := [(.slice na126 nn126 nc126)]) (v := (.slice na126 nn126 nc126)) rfl rfl (by first | (simp [length_bL, length_be, length_uL]; done) | rfl) (by first | (simp [length_bL, length_be, length_uL]; done) | rfl) rfl (by first | (simp [length_bL, length_be, length_uL]; done) | rfl) (fill_nil _ _))))
                                              refine p_step (by exact rfl) ((y_bld (bC (et (gS rfl (gS rfl (gS rfl (gS rfl (gS rfl (gS rfl g0)))))) rfl) (bC (et (gS rfl g0) rfl) (bC (et g0 rfl) bN))) hb127).to (congrArg (fun l : List Value => Value.agg l.toArray) (show _ = bL (be 20 s.now.temps[i].1) ++ [(.slice na125 nn125 nc125), (.slice na126 nn126 nc126)] by simp))) ?_
                                              exact (by
                                                have hfl : cs.flatten.length = i * 22 := by rw [hcp.len (by omega), hcl]
                                                have hkr : 22 ≤ rest.length := by rw [hrl]; omega
                                                refine p_step (by exact rfl) (y_idxSa rfl Hvaa.underlying96 sz_295 (et (gS rfl (gS rfl (gS rfl (gS rfl (gS rfl (gS rfl (gS rfl (gS rfl (gS rfl (gS rfl g0)))))))))) rfl) (et (gS rfl (gS rfl (gS rfl (gS rfl (gS rfl (gS rfl (gS rfl (gS rfl (gS rfl g0))))))))) rfl) ?_) ?_
                                                omega
                                                refine p_effN (by exact rfl) (e_store sz_295 (et g0 rfl) (cellsV (et (gS rfl g0) rfl) rfl) len22 (by exact one_app (one_two rfl rfl)) k110 (by (rw [List.size_toArray, List.length_append, hfl, hrl]; omega))) (fun v128 w128 h128 => ?_)
                                                obtain ⟨rfl, x128⟩ := h128
                                                replace k2 := k2.ch x128.ch (by omega)
                                                replace k5 := k5.ch x128.ch (by omega)
                                                replace k122 := k122.ch x128.ch (by omega)
                                                replace kS := kS.ch x128.ch (by first | omega | (omega))
                                                replace kL := kL.ch x128.ch (by first | omega | (intro q hq hm; have := dL q hq; omega))
                                                replace k110 := x128.blk
                                                replace G := G.wr x128 (by first | exact .inr f110 | omega | (simp; omega)) nb110
                                                replace V115 := V115.wr x128 (by first | exact .inr f110 | omega | (simp; omega)) nb110
                                                replace hF := G.fz
                                                replace U := U.st x128 f110
                                                refine ⟨.inl rfl, ?_⟩
                                                rw [fill_rec hfl len22 hkr] at k110
                                                refine p_nil ?_
                                                refine hQ120 _ _ _ (in_normal ?_)
                                                refine hK119 _ _ ?_
                                                refine fg6 0 2 3 125 126 127 (gS rfl (gS rfl (gS rfl (gS rfl (gS rfl (gS rfl (gS rfl (gS rfl (gS rfl (gS rfl (gS rfl (gS rfl (gS rfl (gS rfl (gS rfl (gS rfl (gS rfl (gS rfl (gS rfl (gS rfl g0)))))))))))))))))))) (gS rfl (gS rfl (gS rfl (gS rfl (gS rfl (gS rfl (gS rfl (gS rfl (gS rfl (gS rfl (gS rfl (gS rfl (gS rfl (gS rfl (gS rfl (gS rfl (gS rfl (gS rfl (gS rfl g0))))))))))))))))))) (gS rfl (gS rfl (gS rfl (gS rfl (gS rfl (gS rfl (gS rfl (gS rfl (gS rfl (gS rfl (gS rfl (gS rfl (gS rfl (gS rfl (gS rfl (gS rfl (gS rfl (gS rfl g0)))))))))))))))))) (gS rfl (gS rfl (gS rfl (gS rfl (gS rfl (gS rfl (gS rfl (gS rfl (gS rfl (gS rfl (gS rfl (gS rfl (gS rfl (gS rfl (gS rfl (gS rfl (gS rfl g0))))))))))))))))) (gS rfl (gS rfl (gS rfl (gS rfl (gS rfl (gS rfl (gS rfl (gS rfl (gS rfl (gS rfl (gS rfl (gS rfl (gS rfl (gS rfl (gS rfl (gS rfl g0)))))))))))))))) (gS rfl (gS rfl (gS rfl (gS rfl (gS rfl (gS rfl (gS rfl (gS rfl (gS rfl (gS rfl (gS rfl (gS rfl (gS rfl (gS rfl (gS rfl g0))))))))))))))) (fun g => ?_)
                                                refine c_region ?_
                                                refine l_step (y_add (et g0 rfl) rfl (addIN (y := 1) ?_)) ?_
                                                omega
                                                refine l_step (y_moveV (et g0 rfl)) ?_
                                                refine l_nil ?_
                                                refine fK6 0 2 3 125 126 127 (gS rfl (gS rfl (gS rfl (gS rfl (gS rfl (gS rfl (gS rfl g0))))))) (gS rfl (gS rfl (gS rfl (gS rfl (gS rfl (gS rfl g0)))))) (gS rfl (gS rfl (gS rfl (gS rfl (gS rfl g0))))) (gS rfl (gS rfl (gS rfl (gS rfl g0)))) (gS rfl (gS rfl (gS rfl g0))) g0 (fun g => ?_)
                                                exact hK115 (s.now.temps.length - ((i + 1))) _ _ (by omega) ⟨g, _, _, _, (i + 1), rfl, rfl, by omega, by rw [List.length_append, hcl]; rfl, by rw [List.length_drop, hrl]; omega, hcp.snoc hcl hil len22 ⟨_, _, rfl, n125, n126, hta, htk, htv⟩, k110, V115⟩))))
                                      · skip
                                        
                                        have hil : i = s.now.temps.length := by have := of_decide_eq_false cB6; omega
                                        obtain rfl : rest = [] := List.length_eq_zero_iff.1 (by rw [hrl, hil]; omega)
                                        rw [List.append_nil] at k110
                                        obtain ⟨Hz129, Gz129, hlz129, hez129, hnz129⟩ := G.hold' k110 f110
                                        replace G := Gz129
                                        replace hF := G.fz
                                        replace hvr9 := hvr9.mono hlz129
                                        replace hvl9 := hvl9.mono hlz129
                                        replace lvFB2 := lvFB2.mono hlz129
                                        replace lv99 := lv99.mono hlz129
                                        replace lv102 := lv102.mono hlz129
                                        replace lv105 := lv105.mono hlz129
                                        replace hcp := hcp.mono hlz129
                                        replace hL0 := hL0.trans hlz129
                                        replace nb2 := fun hh => (hnz129 _ hh).elim nb2 (by omega)
                                        replace nb5 := fun hh => (hnz129 _ hh).elim nb5 (by omega)
                                        have lvFB6 : LV P_tri 22 Hz129 (.slice (some ⟨b110, 0, none⟩) s.now.temps.length s.now.temps.length) s.now.temps := LV.ofNew hez129 (Le.refl _) (by first | with_reducible exact mono_slot | with_reducible exact mono_acct | with_reducible exact mono_tri | with_reducible exact mono_mark) rfl (by omega) (by omega) hcp.get
                                        refine c_exit ?_
                                        refine hQ114 _ _ _ (in_exit ?_)
                                        refine hK112 _ _ ?_
                                        refine fg3 0 2 3 (gS rfl (gS rfl (gS rfl (gS rfl (gS rfl (gS rfl g0)))))) (gS rfl (gS rfl (gS rfl (gS rfl (gS rfl g0))))) (gS rfl (gS rfl (gS rfl (gS rfl g0)))) (fun g => ?_)
                                        refine c_seq (fun K130 hK130 => ?_)
                                        refine c_seq (fun K131 hK131 => ?_)
                                        exact (by
                                          refine c_region ?_
                                          refine l_step (y_moveV (et (gS rfl (gS rfl g0)) rfl)) ?_
                                          refine l_step (y_nil (et g0 rfl)) ?_
                                          refine l_step (y_fld fld_98_2 (et g0 rfl)) ?_
                                          refine l_step (y_load1 one_94 (et g0 rfl) (at1 (kS.cell (rS 2 _ rfl)))) ?_
                                          refine l_step (y_neqNS Hvaa.underlying94 (et g0 rfl) rfl) ?_
                                          refine l_nil ?_
                                          refine hK131 _ _ ?_
                                          refine fg4 0 2 3 150 (gS rfl (gS rfl (gS rfl (gS rfl (gS rfl (gS rfl (gS rfl g0))))))) (gS rfl (gS rfl (gS rfl (gS rfl (gS rfl (gS rfl g0)))))) (gS rfl (gS rfl (gS rfl (gS rfl (gS rfl g0))))) g0 (fun g => ?_)
                                          refine c_cond (et g0 rfl) (fun cB7 => ?_) (fun cB7 => ?_)
                                          · skip
                                            
                                            have hnB7 : sa ≠ none := fun e => by rw [e] at cB7; cases cB7
                                            exact (by
                                              refine c_region ?_
                                              refine l_step (y_moveV (et (gS rfl (gS rfl (gS rfl g0))) rfl)) ?_
                                              refine l_step (y_nil (et g0 rfl)) ?_
                                              refine l_step (y_fld fld_98_2 (et g0 rfl)) ?_
                                              refine l_step (y_load1 one_94 (et g0 rfl) (at1 (kS.cell (rS 2 _ rfl)))) ?_
                                              refine l_step (y_len Hvaa.underlying94 (et g0 rfl)) ?_
                                              refine l_eff (e_make Hvaa.underlying94 sz_232 zr_232 by_232 (et g0 rfl) (et g0 rfl) (by omega) (by omega)) (fun v133 w133 h133 => ?_)
                                              obtain ⟨b133, rfl, n133⟩ := h133
                                              have d2_133 : b2 < b133 := Nat.lt_of_lt_of_le k2.lt n133.fresh
                                              have d5_133 : b5 < b133 := Nat.lt_of_lt_of_le k5.lt n133.fresh
                                              have f133 : w.heap.size ≤ b133 := Nat.le_trans U.size n133.fresh
                                              have nb133 := hF.nb n133.fresh
                                              replace G := G.tr (Go.ofUp hF n133.up)
                                              replace hF := hF.up n133.up
                                              replace k2 := k2.up n133.up
                                              replace k5 := k5.up n133.up
                                              replace kS := kS.up n133.up
                                              replace kL := kL.up n133.up
                                              replace U := U.tr n133.up
                                              have k133 := n133.blk
                                              obtain ⟨rest0m, hr0m, k133⟩ := made_list k133
                                              refine l_step (y_fld fld_98_2 (et (gS rfl (gS rfl (gS rfl (gS rfl (gS rfl (gS rfl (gS rfl g0))))))) rfl)) ?_
                                              refine l_effN (e_store sz_94 (et g0 rfl) (cellsV (et (gS rfl g0) rfl) rfl) rfl (by first | exact one_bL _ | exact one_uL _ | (intro v hv; simp at hv; subst hv; rfl)) k5 (by first | exact Nat.le_of_ble_eq_true rfl | simp | omega)) (fun v134 w134 h134 => ?_)
                                              obtain ⟨rfl, x134⟩ := h134
                                              replace k2 := k2.ch x134.ch (by omega)
                                              replace k133 := k133.ch x134.ch (by omega)
                                              replace kS := kS.ch x134.ch (by first | omega | (omega))
                                              replace kL := kL.ch x134.ch (by first | omega | (intro q hq hm; have := dL q hq; omega))
                                              replace k5 := x134.blk
                                              replace G := G.wr x134 (by first | exact .inr f5 | omega | (simp; omega)) nb5
                                              replace hF := G.fz
                                              replace U := U.st x134 f5
                                              replace k5 : Blk w134 b5 [.slice (some ⟨b25, 0, none⟩) s.now.accts.length s.now.accts.length, .slice xa99 s.now.warmA.length xc99, .slice (some ⟨b133, 0, none⟩) s.now.warmS.length s.now.warmS.length, .slice ra1 ra2 ra3, .slice ya yn yn, .slice (some ⟨b110, 0, none⟩) s.now.temps.length s.now.temps.length, .slice xa102 s.now.made.length xc102, .slice xa105 s.now.gone.length xc105].toArray := k5
                                              refine l_nil ?_
                                              refine hK130 _ _ ?_
                                              refine fg3 0 2 3 (gS rfl (gS rfl (gS rfl (gS rfl (gS rfl (gS rfl (gS rfl (gS rfl (gS rfl (gS rfl g0)))))))))) (gS rfl (gS rfl (gS rfl (gS rfl (gS rfl (gS rfl (gS rfl (gS rfl (gS rfl g0))))))))) (gS rfl (gS rfl (gS rfl (gS rfl (gS rfl (gS rfl (gS rfl (gS rfl g0)))))))) (fun g => ?_)
                                              refine c_seq (fun K135 hK135 => ?_)
                                              refine c_seq (fun K136 hK136 => ?_)
                                              exact (by
                                                refine c_region ?_
                                                refine l_step (y_moveV (et (gS rfl (gS rfl g0)) rfl)) ?_
                                                refine l_step (y_nil (et g0 rfl)) ?_
                                                refine l_step (y_fld fld_98_2 (et g0 rfl)) ?_
                                                refine l_step (y_load1 one_94 (et g0 rfl) (at1 (kS.cell (rS 2 _ rfl)))) ?_
                                                refine l_step (y_len Hvaa.underlying94 (et g0 rfl)) ?_
                                                refine l_step y_moveC ?_
                                                refine l_nil ?_
                                                refine hK136 _ _ ?_
                                                refine fg5 2 3 161 162 163 (gS rfl (gS rfl (gS rfl (gS rfl (gS rfl (gS rfl (gS rfl g0))))))) (gS rfl (gS rfl (gS rfl (gS rfl (gS rfl (gS rfl g0)))))) (gS rfl (gS rfl g0)) (gS rfl g0) g0 (fun g => ?_)
                                                refine c_block (fun Q137 hQ137 => ?_)
                                                refine fg5 2 3 161 162 163 (gS rfl (gS rfl (gS rfl (gS rfl g0)))) (gS rfl (gS rfl (gS rfl g0))) (gS rfl (gS rfl g0)) (gS rfl g0) g0 (fun g => ?_)
                                                refine c_loop (fun k_ s_ W138 => ∃ (g : Nat → Value) (Hk138 : Store) (cs : List (List Value)) (rest : List Value) (i : Nat), s_ = (upd (upd (upd (upd (upd g 2 (.pointer (some ⟨b2, 0, none⟩))) 3 (.pointer (some ⟨b5, 0, none⟩))) 161 (.slice sa s.now.warmS.length sc)) 162 (.int .i64 (s.now.warmS.length : Nat))) 163 (.int .i64 (i : Nat))) ∧ s.now.warmS.length - i = k_ ∧ (i ≤ s.now.warmS.length) ∧ (cs.length = i) ∧ (rest.length = (s.now.warmS.length - i) * 21) ∧ (CP P_mark 21 Hk138 cs s.now.warmS) ∧ Blk W138 b133 ((cs.flatten ++ rest).toArray) ∧ Go (fun k => k = b133) w134 Hz129 W138 Hk138) (s.now.warmS.length - (0)) ?_ ?_
                                                · exact ⟨g, _, [], rest0m, 0, rfl, rfl, Nat.zero_le _, rfl, by rw [hr0m, Nat.sub_zero], CP.nil _ _ _ _, k133, Go.refl hF⟩
                                                · skip
                                                  intro k_ s_ W138 hI K138 hK138
                                                  obtain ⟨g, Hk138, cs, rest, i, rfl, rfl, hi, hcl, hrl, hcp, nk133, V138⟩ := hI
                                                  have hle138 := V138.le
                                                  replace nb2 := V138.nb nb2 k2.lt
                                                  replace nb5 := V138.nb nb5 k5.lt
                                                  replace nb133 := V138.nb nb133 k133.lt
                                                  replace hvr9 := hvr9.mono hle138
                                                  replace hvl9 := hvl9.mono hle138
                                                  replace lvFB2 := lvFB2.mono hle138
                                                  replace lv99 := lv99.mono hle138
                                                  replace lv102 := lv102.mono hle138
                                                  replace lv105 := lv105.mono hle138
                                                  replace lvFB6 := lvFB6.mono hle138
                                                  replace hL0 := hL0.trans hle138
                                                  replace G := G.trans V138 (by intro b hb; first | exact hb.elim | omega | (simp at hb ⊢; omega))
                                                  replace hF := V138.fz
                                                  replace k2 := k2.ch V138.ch (by omega)
                                                  replace k5 := k5.ch V138.ch (by omega)
                                                  replace kS := kS.ch V138.ch (by omega)
                                                  replace kL := kL.ch V138.ch (by intro q hq hm; have := dL q hq; omega)
                                                  replace k133 := nk133
                                                  replace U := U.cc V138.ch (by intro b hb; first | exact hb.elim | omega | (simp at hb ⊢; omega))
                                                  refine c_seq (fun K139 hK139 => ?_)
                                                  exact (by
                                                    refine c_region ?_
                                                    refine l_step (y_lss (et g0 rfl) (et (gS rfl g0) rfl)) ?_
                                                    refine l_nil ?_
                                                    refine hK139 _ _ ?_
                                                    refine c_seq (fun K140 hK140 => ?_)
                                                    refine c_cond (et g0 rfl) (fun cB8 => ?_) (fun cB8 => ?_)
                                                    · skip
                                                      
                                                      have hil : i < s.now.warmS.length := by have := of_decide_eq_true cB8; omega
                                                      refine c_skip ?_
                                                      refine hK140 _ _ ?_
                                                      refine fg5 2 3 161 162 163 (gS rfl (gS rfl (gS rfl (gS rfl (gS rfl g0))))) (gS rfl (gS rfl (gS rfl (gS rfl g0)))) (gS rfl (gS rfl (gS rfl g0))) (gS rfl (gS rfl g0)) (gS rfl g0) (fun g => ?_)
                                                      refine c_seq (fun K142 hK142 => ?_)
                                                      refine c_block (fun Q143 hQ143 => ?_)
                                                      refine c_seq (fun K144 hK144 => ?_)
                                                      exact (by
                                                        refine c_region ?_
                                                        refine l_step (y_moveV (et g0 rfl)) ?_
                                                        have hF0 := hF.of hL0
                                                        obtain ⟨bq, oq, r, ha0, hrow, hrr, vk, hr1, hvk, hma, hmk⟩ := hWS.row hF0 (i := i) hil
                                                        rw [hr1] at hrow hrr
                                                        obtain ⟨ka1, ka2, ka3, rfl⟩ := hvk.sl
                                                        refine l_step (y_idxSa ha0 Hvaa.underlying94 sz_232 (et (gS rfl (gS rfl (gS rfl g0))) rfl) (et (gS rfl g0) rfl) ?_) ?_
                                                        omega
                                                        refine l_step (y_loadR agg_232 sz_232 (et g0 rfl) len21 (at1R hrow)) ?_
                                                        refine l_eff (e_alloc zr_232) (fun v145 w145 h145 => ?_)
                                                        obtain ⟨b145, rfl, n145⟩ := h145
                                                        have d2_145 : b2 < b145 := Nat.lt_of_lt_of_le k2.lt n145.fresh
                                                        have d5_145 : b5 < b145 := Nat.lt_of_lt_of_le k5.lt n145.fresh
                                                        have d133_145 : b133 < b145 := Nat.lt_of_lt_of_le k133.lt n145.fresh
                                                        have f145 : w.heap.size ≤ b145 := Nat.le_trans U.size n145.fresh
                                                        have nb145 := hF.nb n145.fresh
                                                        have fV138_145 := Nat.le_trans V138.ch.size n145.fresh
                                                        replace G := G.tr (Go.ofUp hF n145.up)
                                                        replace V138 := V138.tr (Go.ofUp hF n145.up)
                                                        replace hF := hF.up n145.up
                                                        replace k2 := k2.up n145.up
                                                        replace k5 := k5.up n145.up
                                                        replace k133 := k133.up n145.up
                                                        replace kS := kS.up n145.up
                                                        replace kL := kL.up n145.up
                                                        replace U := U.tr n145.up
                                                        have k145 := n145.blk
                                                        refine l_step (y_assignV (et (gS rfl (gS rfl (gS rfl g0))) rfl)) ?_
                                                        refine l_effN (e_store sz_232 (et (gS rfl g0) rfl) (cellsV (et (gS rfl (gS rfl g0)) rfl) rfl) len21 (by exact one_app (one_one rfl)) k145 (by exact Nat.le_of_ble_eq_true rfl)) (fun v146 w146 h146 => ?_)
                                                        obtain ⟨rfl, x146⟩ := h146
                                                        replace k2 := k2.ch x146.ch (by omega)
                                                        replace k5 := k5.ch x146.ch (by omega)
                                                        replace k133 := k133.ch x146.ch (by omega)
                                                        replace kS := kS.ch x146.ch (by first | omega | (omega))
                                                        replace kL := kL.ch x146.ch (by first | omega | (intro q hq hm; have := dL q hq; omega))
                                                        replace k145 := x146.blk.full (by rw [len21]; rfl)
                                                        replace G := G.wr x146 (by first | exact .inr f145 | omega | (simp; omega)) nb145
                                                        replace V138 := V138.wr x146 (by first | exact .inr f145 | omega | (simp; omega)) nb145
                                                        replace hF := G.fz
                                                        replace U := U.st x146 f145
                                                        refine l_nil ?_
                                                        refine hK144 _ _ ?_
                                                        refine fg7 2 3 161 162 163 12 11 (gS rfl (gS rfl (gS rfl (gS rfl (gS rfl (gS rfl (gS rfl (gS rfl (gS rfl g0))))))))) (gS rfl (gS rfl (gS rfl (gS rfl (gS rfl (gS rfl (gS rfl (gS rfl g0)))))))) (gS rfl (gS rfl (gS rfl (gS rfl (gS rfl (gS rfl (gS rfl g0))))))) (gS rfl (gS rfl (gS rfl (gS rfl (gS rfl (gS rfl g0)))))) (gS rfl (gS rfl (gS rfl (gS rfl (gS rfl g0))))) (gS rfl g0) g0 (fun g => ?_)
                                                        refine c_draw Up 10 [(0, true), (1, true), (2, true), (3, true), (4, true), (5, true), (6, true), (7, false), (8, true), (9, true), (10, false)] (by kernel_rfl) (fun w147 hu => ⟨Up.refl _, ?_⟩)
                                                        replace G := G.tr (Go.ofUp hF hu)
                                                        replace V138 := V138.tr (Go.ofUp hF hu)
                                                        replace hF := hF.up hu
                                                        replace k2 := k2.up hu
                                                        replace k5 := k5.up hu
                                                        replace k133 := k133.up hu
                                                        replace k145 := k145.up hu
                                                        replace kS := kS.up hu
                                                        replace kL := kL.up hu
                                                        replace U := U.tr hu
                                                        have SU := Up.refl w147
                                                        exact (by
                                                          refine p_step (by exact rfl) (y_fld fld_98_2 (et (gS rfl (gS rfl (gS rfl (gS rfl (gS rfl g0))))) rfl)) ?_
                                                          refine p_step (by exact rfl) (y_load1 one_94 (et g0 rfl) (atS (k5.cell rfl))) ?_
                                                          refine p_step (by exact rfl) (y_moveV (et (gS rfl (gS rfl g0)) rfl)) ?_
                                                          refine p_step (by exact rfl) (y_fld fld_232_0 (et (gS rfl (gS rfl (gS rfl (gS rfl g0)))) rfl)) ?_
                                                          refine p_step (by exact rfl) (y_loadR agg_25 sz_25 (et g0 rfl) (by rw [length_bL, length_be]) (atSR (k145.row addr_row))) ?_
                                                          refine p_step (by exact rfl) (y_fld fld_232_1 (et (gS rfl (gS rfl (gS rfl (gS rfl (gS rfl (gS rfl g0)))))) rfl)) ?_
                                                          refine p_step (by exact rfl) (y_load1 one_95 (et g0 rfl) (atS (k145.cell ((app20 (i := 0) rfl).trans rfl)))) ?_
                                                          refine p_eff (by exact rfl) (e_callV cal_217 (aC (et g0 rfl) aN) (yp_natOf hF (hvk.mono hL0) (bd_up (bd_W hmk) (by decide)))) (fun v148 w148 h148 => ?_)
                                                          obtain ⟨H148, g148, n148⟩ := h148
                                                          have hlew148 := g148.le
                                                          replace nb2 := g148.nb nb2 k2.lt
                                                          replace nb5 := g148.nb nb5 k5.lt
                                                          replace nb133 := g148.nb nb133 k133.lt
                                                          replace nb145 := g148.nb nb145 k145.lt
                                                          replace hvr9 := hvr9.mono hlew148
                                                          replace hvl9 := hvl9.mono hlew148
                                                          replace lvFB2 := lvFB2.mono hlew148
                                                          replace lv99 := lv99.mono hlew148
                                                          replace lv102 := lv102.mono hlew148
                                                          replace lv105 := lv105.mono hlew148
                                                          replace lvFB6 := lvFB6.mono hlew148
                                                          replace hcp := hcp.mono hlew148
                                                          replace hL0 := hL0.trans hlew148
                                                          replace k2 := k2.up g148.up
                                                          replace k5 := k5.up g148.up
                                                          replace k133 := k133.up g148.up
                                                          replace k145 := k145.up g148.up
                                                          replace kS := kS.up g148.up
                                                          replace kL := kL.up g148.up
                                                          replace U := U.tr g148.up
                                                          replace G := G.tr g148
                                                          replace V138 := V138.tr g148
                                                          replace hF := g148.fz
                                                          obtain ⟨na148, nn148, nc148, rfl⟩ := n148.sl
                                                          refine ⟨.inr (SU.tr g148.up), ?_⟩
                                                          replace SU := SU.tr g148.up
                                                          exact (by
                                                            have hb149 : ∀ w, (Instr.build 232 ([(0, (Value.agg (bL (be 20 s.now.warmS[i].1)).toArray)), (1, (.slice na148 nn148 nc148))] : List (Nat × Value)).toArray).run Hvaa.prog w = .ok (.agg ([(bL (be 20 s.now.warmS[i].1)), ([(.slice na148 nn148 nc148)])] : List (List Value)).flatten.toArray) w := bld_run zr_232 plc_232 (fill_flat (off := 0) (k := 20) (f := (List.replicate 20 (.int .u8 0))) (c := bL (be 20 s.now.warmS[i].1)) (v := (Value.agg (bL (be 20 s.now.warmS[i].1)).toArray)) rfl rfl (by first | (simp [length_bL, length_be, length_uL]; done) | rfl) (by first | rfl | (simp [length_bL, length_be, length_uL]; done)) rfl (by first | (simp [length_bL, length_be, length_uL]; done) | rfl) (fill_flat (off := 20) (k := 1) (f := [.slice none 0 0]) (c := [(.slice na148 nn148 nc148)]) (v := (.slice na148 nn148 nc148)) rfl rfl (by first | (simp [length_bL, length_be, length_uL]; done) | rfl) (by first | (simp [length_bL, length_be, length_uL]; done) | rfl) rfl (by first | (simp [length_bL, length_be, length_uL]; done) | rfl) (fill_nil _ _)))
                                                            refine p_step (by exact rfl) ((y_bld (bC (et (gS rfl (gS rfl (gS rfl g0))) rfl) (bC (et g0 rfl) bN)) hb149).to (congrArg (fun l : List Value => Value.agg l.toArray) (show _ = bL (be 20 s.now.warmS[i].1) ++ [(.slice na148 nn148 nc148)] by simp))) ?_
                                                            have hfl : cs.flatten.length = i * 21 := by rw [hcp.len (by omega), hcl]
                                                            have hkr : 21 ≤ rest.length := by rw [hrl]; omega
                                                            refine p_step (by exact rfl) (y_idxSa rfl Hvaa.underlying94 sz_232 (et (gS rfl (gS rfl (gS rfl (gS rfl (gS rfl (gS rfl (gS rfl g0))))))) rfl) (et (gS rfl (gS rfl (gS rfl (gS rfl (gS rfl (gS rfl g0)))))) rfl) ?_) ?_
                                                            omega
                                                            refine p_effN (by exact rfl) (e_store sz_232 (et g0 rfl) (cellsV (et (gS rfl g0) rfl) rfl) len21 (by exact one_app (one_one rfl)) k133 (by (rw [List.size_toArray, List.length_append, hfl, hrl]; omega))) (fun v150 w150 h150 => ?_)
                                                            obtain ⟨rfl, x150⟩ := h150
                                                            replace k2 := k2.ch x150.ch (by omega)
                                                            replace k5 := k5.ch x150.ch (by omega)
                                                            replace k145 := k145.ch x150.ch (by omega)
                                                            replace kS := kS.ch x150.ch (by first | omega | (omega))
                                                            replace kL := kL.ch x150.ch (by first | omega | (intro q hq hm; have := dL q hq; omega))
                                                            replace k133 := x150.blk
                                                            replace G := G.wr x150 (by first | exact .inr f133 | omega | (simp; omega)) nb133
                                                            replace V138 := V138.wr x150 (by first | exact .inr f133 | omega | (simp; omega)) nb133
                                                            replace hF := G.fz
                                                            replace U := U.st x150 f133
                                                            refine ⟨.inl rfl, ?_⟩
                                                            rw [fill_rec hfl len21 hkr] at k133
                                                            refine p_nil ?_
                                                            refine hQ143 _ _ _ (in_normal ?_)
                                                            refine hK142 _ _ ?_
                                                            refine fg5 2 3 161 162 163 (gS rfl (gS rfl (gS rfl (gS rfl (gS rfl (gS rfl (gS rfl (gS rfl (gS rfl (gS rfl (gS rfl (gS rfl (gS rfl (gS rfl (gS rfl (gS rfl g0)))))))))))))))) (gS rfl (gS rfl (gS rfl (gS rfl (gS rfl (gS rfl (gS rfl (gS rfl (gS rfl (gS rfl (gS rfl (gS rfl (gS rfl (gS rfl (gS rfl g0))))))))))))))) (gS rfl (gS rfl (gS rfl (gS rfl (gS rfl (gS rfl (gS rfl (gS rfl (gS rfl (gS rfl (gS rfl (gS rfl (gS rfl (gS rfl g0)))))))))))))) (gS rfl (gS rfl (gS rfl (gS rfl (gS rfl (gS rfl (gS rfl (gS rfl (gS rfl (gS rfl (gS rfl (gS rfl (gS rfl g0))))))))))))) (gS rfl (gS rfl (gS rfl (gS rfl (gS rfl (gS rfl (gS rfl (gS rfl (gS rfl (gS rfl (gS rfl (gS rfl g0)))))))))))) (fun g => ?_)
                                                            refine c_region ?_
                                                            refine l_step (y_add (et g0 rfl) rfl (addIN (y := 1) ?_)) ?_
                                                            omega
                                                            refine l_step (y_moveV (et g0 rfl)) ?_
                                                            refine l_nil ?_
                                                            refine fK5 2 3 161 162 163 (gS rfl (gS rfl (gS rfl (gS rfl (gS rfl (gS rfl g0)))))) (gS rfl (gS rfl (gS rfl (gS rfl (gS rfl g0))))) (gS rfl (gS rfl (gS rfl (gS rfl g0)))) (gS rfl (gS rfl (gS rfl g0))) g0 (fun g => ?_)
                                                            exact hK138 (s.now.warmS.length - ((i + 1))) _ _ (by omega) ⟨g, _, _, _, (i + 1), rfl, rfl, by omega, by rw [List.length_append, hcl]; rfl, by rw [List.length_drop, hrl]; omega, hcp.snoc hcl hil len21 ⟨_, rfl, n148, hma, hmk⟩, k133, V138⟩)))
                                                    · skip
                                                      
                                                      have hil : i = s.now.warmS.length := by have := of_decide_eq_false cB8; omega
                                                      obtain rfl : rest = [] := List.length_eq_zero_iff.1 (by rw [hrl, hil]; omega)
                                                      rw [List.append_nil] at k133
                                                      obtain ⟨Hz151, Gz151, hlz151, hez151, hnz151⟩ := G.hold' k133 f133
                                                      replace G := Gz151
                                                      replace hF := G.fz
                                                      replace hvr9 := hvr9.mono hlz151
                                                      replace hvl9 := hvl9.mono hlz151
                                                      replace lvFB2 := lvFB2.mono hlz151
                                                      replace lv99 := lv99.mono hlz151
                                                      replace lv102 := lv102.mono hlz151
                                                      replace lv105 := lv105.mono hlz151
                                                      replace lvFB6 := lvFB6.mono hlz151
                                                      replace hcp := hcp.mono hlz151
                                                      replace hL0 := hL0.trans hlz151
                                                      replace nb2 := fun hh => (hnz151 _ hh).elim nb2 (by omega)
                                                      replace nb5 := fun hh => (hnz151 _ hh).elim nb5 (by omega)
                                                      have lvFB8 : LV P_mark 21 Hz151 (.slice (some ⟨b133, 0, none⟩) s.now.warmS.length s.now.warmS.length) s.now.warmS := LV.ofNew hez151 (Le.refl _) (by first | with_reducible exact mono_slot | with_reducible exact mono_acct | with_reducible exact mono_tri | with_reducible exact mono_mark) rfl (by omega) (by omega) hcp.get
                                                      refine c_exit ?_
                                                      refine hQ137 _ _ _ (in_exit ?_)
                                                      refine hK135 _ _ ?_
                                                      refine fg2 2 3 (gS rfl (gS rfl (gS rfl (gS rfl (gS rfl g0))))) (gS rfl (gS rfl (gS rfl (gS rfl g0)))) (fun g => ?_)
                                                      refine c_seq (fun K152 hK152 => ?_)
                                                      exact (by
                                                        refine c_region ?_
                                                        refine l_step (y_loadB agg_98 sz_98 (et g0 rfl) rfl (at1B k5)) ?_
                                                        refine l_effN (e_store sz_98 (et (gS rfl (gS rfl g0)) rfl) (cellsV (et g0 rfl) rfl) rfl (by intro v hv; simp only [List.mem_cons, List.not_mem_nil, or_false] at hv; rcases hv with rfl | rfl | rfl | rfl | rfl | rfl | rfl | rfl <;> rfl) k2 (by exact Nat.le_of_ble_eq_true rfl)) (fun v153 w153 h153 => ?_)
                                                        obtain ⟨rfl, x153⟩ := h153
                                                        replace k5 := k5.ch x153.ch (by omega)
                                                        replace kS := kS.ch x153.ch (by first | omega | (omega))
                                                        replace kL := kL.ch x153.ch (by first | omega | (intro q hq hm; have := dL q hq; omega))
                                                        replace k2 := x153.blk.full rfl
                                                        replace G := G.wr x153 (by first | exact .inr f2 | omega | (simp; omega)) nb2
                                                        replace hF := G.fz
                                                        replace U := U.st x153 f2
                                                        refine l_nil ?_
                                                        refine hK152 _ _ ?_
                                                        refine fg1 2 (gS rfl (gS rfl g0)) (fun g => ?_)
                                                        refine c_ret ?_
                                                        repeat with_reducible refine then_ret ?_
                                                        refine ret1 rfl (res_blk agg_98 sz_98 (et g0 rfl) (by first | (simp only [Value.cells, hV, aV, bV, wV, wL, List.size_toArray, length_bL, length_uL, length_be, size_spl, List.length_cons, List.length_nil, List.length_replicate, Nat.zero_add, Nat.reduceAdd, Nat.reduceLeDiff, Nat.le_refl]; done) | rfl) k2) ?_
                                                        exact ⟨_, _, rfl, G, ⟨_, _, _, _, _, _, _, _, rfl, lvFB2, lv99, lvFB8, hvr9, so.refund, hvl9, lvFB6, lv102, lv105, _, _, rfl⟩⟩))))
                                          · skip
                                            
                                            have hzB7 : s.now.warmS.length = 0 := by
                                              cases h9 : sa with
                                              | none => exact nil_len (h9 ▸ hWS)
                                              | some x => rw [h9] at cB7; cases cB7
                                            refine c_skip ?_
                                            refine hK130 _ _ ?_
                                            refine fg3 0 2 3 (gS rfl (gS rfl (gS rfl g0))) (gS rfl (gS rfl g0)) (gS rfl g0) (fun g => ?_)
                                            refine c_seq (fun K154 hK154 => ?_)
                                            refine c_seq (fun K155 hK155 => ?_)
                                            exact (by
                                              refine c_region ?_
                                              refine l_step (y_moveV (et (gS rfl (gS rfl g0)) rfl)) ?_
                                              refine l_step (y_nil (et g0 rfl)) ?_
                                              refine l_step (y_fld fld_98_2 (et g0 rfl)) ?_
                                              refine l_step (y_load1 one_94 (et g0 rfl) (at1 (kS.cell (rS 2 _ rfl)))) ?_
                                              refine l_step (y_len Hvaa.underlying94 (et g0 rfl)) ?_
                                              refine l_step y_moveC ?_
                                              refine l_nil ?_
                                              refine hK155 _ _ ?_
                                              refine fg5 2 3 161 162 163 (gS rfl (gS rfl (gS rfl (gS rfl (gS rfl (gS rfl (gS rfl g0))))))) (gS rfl (gS rfl (gS rfl (gS rfl (gS rfl (gS rfl g0)))))) (gS rfl (gS rfl g0)) (gS rfl g0) g0 (fun g => ?_)
                                              refine c_block (fun Q156 hQ156 => ?_)
                                              refine fg5 2 3 161 162 163 (gS rfl (gS rfl (gS rfl (gS rfl g0)))) (gS rfl (gS rfl (gS rfl g0))) (gS rfl (gS rfl g0)) (gS rfl g0) g0 (fun g => ?_)
                                              refine c_loop (fun k_ s_ W157 => ∃ (g : Nat → Value) (Hk157 : Store) (i : Nat), s_ = (upd (upd (upd (upd (upd g 2 (.pointer (some ⟨b2, 0, none⟩))) 3 (.pointer (some ⟨b5, 0, none⟩))) 161 (.slice sa s.now.warmS.length sc)) 162 (.int .i64 (s.now.warmS.length : Nat))) 163 (.int .i64 (i : Nat))) ∧ s.now.warmS.length - i = k_ ∧ (i ≤ s.now.warmS.length) ∧ Go (fun k => False) W115 Hz129 W157 Hk157) (s.now.warmS.length - (0)) ?_ ?_
                                              · exact ⟨g, _, 0, rfl, rfl, Nat.zero_le _, Go.refl hF⟩
                                              · skip
                                                intro k_ s_ W157 hI K157 hK157
                                                obtain ⟨g, Hk157, i, rfl, rfl, hi, V157⟩ := hI
                                                have hle157 := V157.le
                                                replace nb2 := V157.nb nb2 k2.lt
                                                replace nb5 := V157.nb nb5 k5.lt
                                                replace hvr9 := hvr9.mono hle157
                                                replace hvl9 := hvl9.mono hle157
                                                replace lvFB2 := lvFB2.mono hle157
                                                replace lv99 := lv99.mono hle157
                                                replace lv102 := lv102.mono hle157
                                                replace lv105 := lv105.mono hle157
                                                replace lvFB6 := lvFB6.mono hle157
                                                replace hL0 := hL0.trans hle157
                                                replace G := G.trans V157 (by intro b hb; first | exact hb.elim | omega | (simp at hb ⊢; omega))
                                                replace hF := V157.fz
                                                replace k2 := k2.ch V157.ch (by exact fun h => h)
                                                replace k5 := k5.ch V157.ch (by exact fun h => h)
                                                replace kS := kS.ch V157.ch (by first | exact fun h => h | exact fun _ h => h.elim | exact fun _ _ h => h)
                                                replace kL := kL.ch V157.ch (by first | exact fun h => h | exact fun _ h => h.elim | exact fun _ _ h => h)
                                                replace U := U.cc V157.ch (by intro b hb; first | exact hb.elim | omega | (simp at hb ⊢; omega))
                                                refine c_seq (fun K158 hK158 => ?_)
                                                exact (by
                                                  refine c_region ?_
                                                  refine l_step (y_lss (et g0 rfl) (et (gS rfl g0) rfl)) ?_
                                                  refine l_nil ?_
                                                  refine hK158 _ _ ?_
                                                  refine c_seq (fun K159 hK159 => ?_)
                                                  refine c_cond (et g0 rfl) (fun cB8 => ?_) (fun cB8 => ?_)
                                                  · skip
                                                    
                                                    have := of_decide_eq_true cB8; omega
                                                  · skip
                                                    
                                                    refine c_exit ?_
                                                    refine hQ156 _ _ _ (in_exit ?_)
                                                    refine hK154 _ _ ?_
                                                    refine fg2 2 3 (gS rfl (gS rfl (gS rfl (gS rfl (gS rfl g0))))) (gS rfl (gS rfl (gS rfl (gS rfl g0)))) (fun g => ?_)
                                                    refine c_seq (fun K161 hK161 => ?_)
                                                    exact (by
                                                      refine c_region ?_
                                                      refine l_step (y_loadB agg_98 sz_98 (et g0 rfl) rfl (at1B k5)) ?_
                                                      refine l_effN (e_store sz_98 (et (gS rfl (gS rfl g0)) rfl) (cellsV (et g0 rfl) rfl) rfl (by intro v hv; simp only [List.mem_cons, List.not_mem_nil, or_false] at hv; rcases hv with rfl | rfl | rfl | rfl | rfl | rfl | rfl | rfl <;> rfl) k2 (by exact Nat.le_of_ble_eq_true rfl)) (fun v162 w162 h162 => ?_)
                                                      obtain ⟨rfl, x162⟩ := h162
                                                      replace k5 := k5.ch x162.ch (by omega)
                                                      replace kS := kS.ch x162.ch (by first | omega | (omega))
                                                      replace kL := kL.ch x162.ch (by first | omega | (intro q hq hm; have := dL q hq; omega))
                                                      replace k2 := x162.blk.full rfl
                                                      replace G := G.wr x162 (by first | exact .inr f2 | omega | (simp; omega)) nb2
                                                      replace hF := G.fz
                                                      replace U := U.st x162 f2
                                                      refine l_nil ?_
                                                      refine hK161 _ _ ?_
                                                      refine fg1 2 (gS rfl (gS rfl g0)) (fun g => ?_)
                                                      refine c_ret ?_
                                                      repeat with_reducible refine then_ret ?_
                                                      refine ret1 rfl (res_blk agg_98 sz_98 (et g0 rfl) (by first | (simp only [Value.cells, hV, aV, bV, wV, wL, List.size_toArray, length_bL, length_uL, length_be, size_spl, List.length_cons, List.length_nil, List.length_replicate, Nat.zero_add, Nat.reduceAdd, Nat.reduceLeDiff, Nat.le_refl]; done) | rfl) k2) ?_
                                                      exact ⟨_, _, rfl, G, ⟨_, _, _, _, _, _, _, _, rfl, lvFB2, lv99, (by rw [List.length_eq_zero_iff.1 hzB7]; exact LV.nil _ _ _), hvr9, so.refund, hvl9, lvFB6, lv102, lv105, _, _, rfl⟩⟩)))))))
                            · skip
                              
                              have hzB5 : s.now.temps.length = 0 := by
                                cases h9 : ta with
                                | none => exact nil_len (h9 ▸ hTm)
                                | some x => rw [h9] at cB5; cases cB5
                              refine c_skip ?_
                              refine hK107 _ _ ?_
                              refine fg3 0 2 3 (gS rfl (gS rfl (gS rfl g0))) (gS rfl (gS rfl g0)) (gS rfl g0) (fun g => ?_)
                              refine c_seq (fun K163 hK163 => ?_)
                              refine c_seq (fun K164 hK164 => ?_)
                              exact (by
                                refine c_region ?_
                                refine l_step (y_moveV (et (gS rfl (gS rfl g0)) rfl)) ?_
                                refine l_step (y_nil (et g0 rfl)) ?_
                                refine l_step (y_fld fld_98_5 (et g0 rfl)) ?_
                                refine l_step (y_load1 one_96 (et g0 rfl) (at1 (kS.cell (rS 5 _ rfl)))) ?_
                                refine l_step (y_len Hvaa.underlying96 (et g0 rfl)) ?_
                                refine l_step y_moveC ?_
                                refine l_nil ?_
                                refine hK164 _ _ ?_
                                refine fg6 0 2 3 125 126 127 (gS rfl (gS rfl (gS rfl (gS rfl (gS rfl (gS rfl (gS rfl (gS rfl g0)))))))) (gS rfl (gS rfl (gS rfl (gS rfl (gS rfl (gS rfl (gS rfl g0))))))) (gS rfl (gS rfl (gS rfl (gS rfl (gS rfl (gS rfl g0)))))) (gS rfl (gS rfl g0)) (gS rfl g0) g0 (fun g => ?_)
                                refine c_block (fun Q165 hQ165 => ?_)
                                refine fg6 0 2 3 125 126 127 (gS rfl (gS rfl (gS rfl (gS rfl (gS rfl g0))))) (gS rfl (gS rfl (gS rfl (gS rfl g0)))) (gS rfl (gS rfl (gS rfl g0))) (gS rfl (gS rfl g0)) (gS rfl g0) g0 (fun g => ?_)
                                refine c_loop (fun k_ s_ W166 => ∃ (g : Nat → Value) (Hk166 : Store) (i : Nat), s_ = (upd (upd (upd (upd (upd (upd g 0 (.pointer (some ⟨bs, 0, none⟩))) 2 (.pointer (some ⟨b2, 0, none⟩))) 3 (.pointer (some ⟨b5, 0, none⟩))) 125 (.slice ta s.now.temps.length tc)) 126 (.int .i64 (s.now.temps.length : Nat))) 127 (.int .i64 (i : Nat))) ∧ s.now.temps.length - i = k_ ∧ (i ≤ s.now.temps.length) ∧ Go (fun k => False) w106 H105 W166 Hk166) (s.now.temps.length - (0)) ?_ ?_
                                · exact ⟨g, _, 0, rfl, rfl, Nat.zero_le _, Go.refl hF⟩
                                · skip
                                  intro k_ s_ W166 hI K166 hK166
                                  obtain ⟨g, Hk166, i, rfl, rfl, hi, V166⟩ := hI
                                  have hle166 := V166.le
                                  replace nb2 := V166.nb nb2 k2.lt
                                  replace nb5 := V166.nb nb5 k5.lt
                                  replace hvr9 := hvr9.mono hle166
                                  replace hvl9 := hvl9.mono hle166
                                  replace lvFB2 := lvFB2.mono hle166
                                  replace lv99 := lv99.mono hle166
                                  replace lv102 := lv102.mono hle166
                                  replace lv105 := lv105.mono hle166
                                  replace hL0 := hL0.trans hle166
                                  replace G := G.trans V166 (by intro b hb; first | exact hb.elim | omega | (simp at hb ⊢; omega))
                                  replace hF := V166.fz
                                  replace k2 := k2.ch V166.ch (by exact fun h => h)
                                  replace k5 := k5.ch V166.ch (by exact fun h => h)
                                  replace kS := kS.ch V166.ch (by first | exact fun h => h | exact fun _ h => h.elim | exact fun _ _ h => h)
                                  replace kL := kL.ch V166.ch (by first | exact fun h => h | exact fun _ h => h.elim | exact fun _ _ h => h)
                                  replace U := U.cc V166.ch (by intro b hb; first | exact hb.elim | omega | (simp at hb ⊢; omega))
                                  refine c_seq (fun K167 hK167 => ?_)
                                  exact (by
                                    refine c_region ?_
                                    refine l_step (y_lss (et g0 rfl) (et (gS rfl g0) rfl)) ?_
                                    refine l_nil ?_
                                    refine hK167 _ _ ?_
                                    refine c_seq (fun K168 hK168 => ?_)
                                    refine c_cond (et g0 rfl) (fun cB6 => ?_) (fun cB6 => ?_)
                                    · skip
                                      
                                      have := of_decide_eq_true cB6; omega
                                    · skip
                                      
                                      refine c_exit ?_
                                      refine hQ165 _ _ _ (in_exit ?_)
                                      refine hK163 _ _ ?_
                                      refine fg3 0 2 3 (gS rfl (gS rfl (gS rfl (gS rfl (gS rfl (gS rfl g0)))))) (gS rfl (gS rfl (gS rfl (gS rfl (gS rfl g0))))) (gS rfl (gS rfl (gS rfl (gS rfl g0)))) (fun g => ?_)
                                      refine c_seq (fun K170 hK170 => ?_)
                                      refine c_seq (fun K171 hK171 => ?_)
                                      exact (by
                                        refine c_region ?_
                                        refine l_step (y_moveV (et (gS rfl (gS rfl g0)) rfl)) ?_
                                        refine l_step (y_nil (et g0 rfl)) ?_
                                        refine l_step (y_fld fld_98_2 (et g0 rfl)) ?_
                                        refine l_step (y_load1 one_94 (et g0 rfl) (at1 (kS.cell (rS 2 _ rfl)))) ?_
                                        refine l_step (y_neqNS Hvaa.underlying94 (et g0 rfl) rfl) ?_
                                        refine l_nil ?_
                                        refine hK171 _ _ ?_
                                        refine fg4 0 2 3 150 (gS rfl (gS rfl (gS rfl (gS rfl (gS rfl (gS rfl (gS rfl g0))))))) (gS rfl (gS rfl (gS rfl (gS rfl (gS rfl (gS rfl g0)))))) (gS rfl (gS rfl (gS rfl (gS rfl (gS rfl g0))))) g0 (fun g => ?_)
                                        refine c_cond (et g0 rfl) (fun cB7 => ?_) (fun cB7 => ?_)
                                        · skip
                                          
                                          have hnB7 : sa ≠ none := fun e => by rw [e] at cB7; cases cB7
                                          exact (by
                                            refine c_region ?_
                                            refine l_step (y_moveV (et (gS rfl (gS rfl (gS rfl g0))) rfl)) ?_
                                            refine l_step (y_nil (et g0 rfl)) ?_
                                            refine l_step (y_fld fld_98_2 (et g0 rfl)) ?_
                                            refine l_step (y_load1 one_94 (et g0 rfl) (at1 (kS.cell (rS 2 _ rfl)))) ?_
                                            refine l_step (y_len Hvaa.underlying94 (et g0 rfl)) ?_
                                            refine l_eff (e_make Hvaa.underlying94 sz_232 zr_232 by_232 (et g0 rfl) (et g0 rfl) (by omega) (by omega)) (fun v173 w173 h173 => ?_)
                                            obtain ⟨b173, rfl, n173⟩ := h173
                                            have d2_173 : b2 < b173 := Nat.lt_of_lt_of_le k2.lt n173.fresh
                                            have d5_173 : b5 < b173 := Nat.lt_of_lt_of_le k5.lt n173.fresh
                                            have f173 : w.heap.size ≤ b173 := Nat.le_trans U.size n173.fresh
                                            have nb173 := hF.nb n173.fresh
                                            replace G := G.tr (Go.ofUp hF n173.up)
                                            replace hF := hF.up n173.up
                                            replace k2 := k2.up n173.up
                                            replace k5 := k5.up n173.up
                                            replace kS := kS.up n173.up
                                            replace kL := kL.up n173.up
                                            replace U := U.tr n173.up
                                            have k173 := n173.blk
                                            obtain ⟨rest0m, hr0m, k173⟩ := made_list k173
                                            refine l_step (y_fld fld_98_2 (et (gS rfl (gS rfl (gS rfl (gS rfl (gS rfl (gS rfl (gS rfl g0))))))) rfl)) ?_
                                            refine l_effN (e_store sz_94 (et g0 rfl) (cellsV (et (gS rfl g0) rfl) rfl) rfl (by first | exact one_bL _ | exact one_uL _ | (intro v hv; simp at hv; subst hv; rfl)) k5 (by first | exact Nat.le_of_ble_eq_true rfl | simp | omega)) (fun v174 w174 h174 => ?_)
                                            obtain ⟨rfl, x174⟩ := h174
                                            replace k2 := k2.ch x174.ch (by omega)
                                            replace k173 := k173.ch x174.ch (by omega)
                                            replace kS := kS.ch x174.ch (by first | omega | (omega))
                                            replace kL := kL.ch x174.ch (by first | omega | (intro q hq hm; have := dL q hq; omega))
                                            replace k5 := x174.blk
                                            replace G := G.wr x174 (by first | exact .inr f5 | omega | (simp; omega)) nb5
                                            replace hF := G.fz
                                            replace U := U.st x174 f5
                                            replace k5 : Blk w174 b5 [.slice (some ⟨b25, 0, none⟩) s.now.accts.length s.now.accts.length, .slice xa99 s.now.warmA.length xc99, .slice (some ⟨b173, 0, none⟩) s.now.warmS.length s.now.warmS.length, .slice ra1 ra2 ra3, .slice ya yn yn, .slice none 0 0, .slice xa102 s.now.made.length xc102, .slice xa105 s.now.gone.length xc105].toArray := k5
                                            refine l_nil ?_
                                            refine hK170 _ _ ?_
                                            refine fg3 0 2 3 (gS rfl (gS rfl (gS rfl (gS rfl (gS rfl (gS rfl (gS rfl (gS rfl (gS rfl (gS rfl g0)))))))))) (gS rfl (gS rfl (gS rfl (gS rfl (gS rfl (gS rfl (gS rfl (gS rfl (gS rfl g0))))))))) (gS rfl (gS rfl (gS rfl (gS rfl (gS rfl (gS rfl (gS rfl (gS rfl g0)))))))) (fun g => ?_)
                                            refine c_seq (fun K175 hK175 => ?_)
                                            refine c_seq (fun K176 hK176 => ?_)
                                            exact (by
                                              refine c_region ?_
                                              refine l_step (y_moveV (et (gS rfl (gS rfl g0)) rfl)) ?_
                                              refine l_step (y_nil (et g0 rfl)) ?_
                                              refine l_step (y_fld fld_98_2 (et g0 rfl)) ?_
                                              refine l_step (y_load1 one_94 (et g0 rfl) (at1 (kS.cell (rS 2 _ rfl)))) ?_
                                              refine l_step (y_len Hvaa.underlying94 (et g0 rfl)) ?_
                                              refine l_step y_moveC ?_
                                              refine l_nil ?_
                                              refine hK176 _ _ ?_
                                              refine fg5 2 3 161 162 163 (gS rfl (gS rfl (gS rfl (gS rfl (gS rfl (gS rfl (gS rfl g0))))))) (gS rfl (gS rfl (gS rfl (gS rfl (gS rfl (gS rfl g0)))))) (gS rfl (gS rfl g0)) (gS rfl g0) g0 (fun g => ?_)
                                              refine c_block (fun Q177 hQ177 => ?_)
                                              refine fg5 2 3 161 162 163 (gS rfl (gS rfl (gS rfl (gS rfl g0)))) (gS rfl (gS rfl (gS rfl g0))) (gS rfl (gS rfl g0)) (gS rfl g0) g0 (fun g => ?_)
                                              refine c_loop (fun k_ s_ W178 => ∃ (g : Nat → Value) (Hk178 : Store) (cs : List (List Value)) (rest : List Value) (i : Nat), s_ = (upd (upd (upd (upd (upd g 2 (.pointer (some ⟨b2, 0, none⟩))) 3 (.pointer (some ⟨b5, 0, none⟩))) 161 (.slice sa s.now.warmS.length sc)) 162 (.int .i64 (s.now.warmS.length : Nat))) 163 (.int .i64 (i : Nat))) ∧ s.now.warmS.length - i = k_ ∧ (i ≤ s.now.warmS.length) ∧ (cs.length = i) ∧ (rest.length = (s.now.warmS.length - i) * 21) ∧ (CP P_mark 21 Hk178 cs s.now.warmS) ∧ Blk W178 b173 ((cs.flatten ++ rest).toArray) ∧ Go (fun k => k = b173) w174 Hk166 W178 Hk178) (s.now.warmS.length - (0)) ?_ ?_
                                              · exact ⟨g, _, [], rest0m, 0, rfl, rfl, Nat.zero_le _, rfl, by rw [hr0m, Nat.sub_zero], CP.nil _ _ _ _, k173, Go.refl hF⟩
                                              · skip
                                                intro k_ s_ W178 hI K178 hK178
                                                obtain ⟨g, Hk178, cs, rest, i, rfl, rfl, hi, hcl, hrl, hcp, nk173, V178⟩ := hI
                                                have hle178 := V178.le
                                                replace nb2 := V178.nb nb2 k2.lt
                                                replace nb5 := V178.nb nb5 k5.lt
                                                replace nb173 := V178.nb nb173 k173.lt
                                                replace hvr9 := hvr9.mono hle178
                                                replace hvl9 := hvl9.mono hle178
                                                replace lvFB2 := lvFB2.mono hle178
                                                replace lv99 := lv99.mono hle178
                                                replace lv102 := lv102.mono hle178
                                                replace lv105 := lv105.mono hle178
                                                replace hL0 := hL0.trans hle178
                                                replace G := G.trans V178 (by intro b hb; first | exact hb.elim | omega | (simp at hb ⊢; omega))
                                                replace hF := V178.fz
                                                replace k2 := k2.ch V178.ch (by omega)
                                                replace k5 := k5.ch V178.ch (by omega)
                                                replace kS := kS.ch V178.ch (by omega)
                                                replace kL := kL.ch V178.ch (by intro q hq hm; have := dL q hq; omega)
                                                replace k173 := nk173
                                                replace U := U.cc V178.ch (by intro b hb; first | exact hb.elim | omega | (simp at hb ⊢; omega))
                                                refine c_seq (fun K179 hK179 => ?_)
                                                exact (by
                                                  refine c_region ?_
                                                  refine l_step (y_lss (et g0 rfl) (et (gS rfl g0) rfl)) ?_
                                                  refine l_nil ?_
                                                  refine hK179 _ _ ?_
                                                  refine c_seq (fun K180 hK180 => ?_)
                                                  refine c_cond (et g0 rfl) (fun cB8 => ?_) (fun cB8 => ?_)
                                                  · skip
                                                    
                                                    have hil : i < s.now.warmS.length := by have := of_decide_eq_true cB8; omega
                                                    refine c_skip ?_
                                                    refine hK180 _ _ ?_
                                                    refine fg5 2 3 161 162 163 (gS rfl (gS rfl (gS rfl (gS rfl (gS rfl g0))))) (gS rfl (gS rfl (gS rfl (gS rfl g0)))) (gS rfl (gS rfl (gS rfl g0))) (gS rfl (gS rfl g0)) (gS rfl g0) (fun g => ?_)
                                                    refine c_seq (fun K182 hK182 => ?_)
                                                    refine c_block (fun Q183 hQ183 => ?_)
                                                    refine c_seq (fun K184 hK184 => ?_)
                                                    exact (by
                                                      refine c_region ?_
                                                      refine l_step (y_moveV (et g0 rfl)) ?_
                                                      have hF0 := hF.of hL0
                                                      obtain ⟨bq, oq, r, ha0, hrow, hrr, vk, hr1, hvk, hma, hmk⟩ := hWS.row hF0 (i := i) hil
                                                      rw [hr1] at hrow hrr
                                                      obtain ⟨ka1, ka2, ka3, rfl⟩ := hvk.sl
                                                      refine l_step (y_idxSa ha0 Hvaa.underlying94 sz_232 (et (gS rfl (gS rfl (gS rfl g0))) rfl) (et (gS rfl g0) rfl) ?_) ?_
                                                      omega
                                                      refine l_step (y_loadR agg_232 sz_232 (et g0 rfl) len21 (at1R hrow)) ?_
                                                      refine l_eff (e_alloc zr_232) (fun v185 w185 h185 => ?_)
                                                      obtain ⟨b185, rfl, n185⟩ := h185
                                                      have d2_185 : b2 < b185 := Nat.lt_of_lt_of_le k2.lt n185.fresh
                                                      have d5_185 : b5 < b185 := Nat.lt_of_lt_of_le k5.lt n185.fresh
                                                      have d173_185 : b173 < b185 := Nat.lt_of_lt_of_le k173.lt n185.fresh
                                                      have f185 : w.heap.size ≤ b185 := Nat.le_trans U.size n185.fresh
                                                      have nb185 := hF.nb n185.fresh
                                                      have fV178_185 := Nat.le_trans V178.ch.size n185.fresh
                                                      replace G := G.tr (Go.ofUp hF n185.up)
                                                      replace V178 := V178.tr (Go.ofUp hF n185.up)
                                                      replace hF := hF.up n185.up
                                                      replace k2 := k2.up n185.up
                                                      replace k5 := k5.up n185.up
                                                      replace k173 := k173.up n185.up
                                                      replace kS := kS.up n185.up
                                                      replace kL := kL.up n185.up
                                                      replace U := U.tr n185.up
                                                      have k185 := n185.blk
                                                      refine l_step (y_assignV (et (gS rfl (gS rfl (gS rfl g0))) rfl)) ?_
                                                      refine l_effN (e_store sz_232 (et (gS rfl g0) rfl) (cellsV (et (gS rfl (gS rfl g0)) rfl) rfl) len21 (by exact one_app (one_one rfl)) k185 (by exact Nat.le_of_ble_eq_true rfl)) (fun v186 w186 h186 => ?_)
                                                      obtain ⟨rfl, x186⟩ := h186
                                                      replace k2 := k2.ch x186.ch (by omega)
                                                      replace k5 := k5.ch x186.ch (by omega)
                                                      replace k173 := k173.ch x186.ch (by omega)
                                                      replace kS := kS.ch x186.ch (by first | omega | (omega))
                                                      replace kL := kL.ch x186.ch (by first | omega | (intro q hq hm; have := dL q hq; omega))
                                                      replace k185 := x186.blk.full (by rw [len21]; rfl)
                                                      replace G := G.wr x186 (by first | exact .inr f185 | omega | (simp; omega)) nb185
                                                      replace V178 := V178.wr x186 (by first | exact .inr f185 | omega | (simp; omega)) nb185
                                                      replace hF := G.fz
                                                      replace U := U.st x186 f185
                                                      refine l_nil ?_
                                                      refine hK184 _ _ ?_
                                                      refine fg7 2 3 161 162 163 12 11 (gS rfl (gS rfl (gS rfl (gS rfl (gS rfl (gS rfl (gS rfl (gS rfl (gS rfl g0))))))))) (gS rfl (gS rfl (gS rfl (gS rfl (gS rfl (gS rfl (gS rfl (gS rfl g0)))))))) (gS rfl (gS rfl (gS rfl (gS rfl (gS rfl (gS rfl (gS rfl g0))))))) (gS rfl (gS rfl (gS rfl (gS rfl (gS rfl (gS rfl g0)))))) (gS rfl (gS rfl (gS rfl (gS rfl (gS rfl g0))))) (gS rfl g0) g0 (fun g => ?_)
                                                      refine c_draw Up 10 [(0, true), (1, true), (2, true), (3, true), (4, true), (5, true), (6, true), (7, false), (8, true), (9, true), (10, false)] (by kernel_rfl) (fun w187 hu => ⟨Up.refl _, ?_⟩)
                                                      replace G := G.tr (Go.ofUp hF hu)
                                                      replace V178 := V178.tr (Go.ofUp hF hu)
                                                      replace hF := hF.up hu
                                                      replace k2 := k2.up hu
                                                      replace k5 := k5.up hu
                                                      replace k173 := k173.up hu
                                                      replace k185 := k185.up hu
                                                      replace kS := kS.up hu
                                                      replace kL := kL.up hu
                                                      replace U := U.tr hu
                                                      have SU := Up.refl w187
                                                      exact (by
                                                        refine p_step (by exact rfl) (y_fld fld_98_2 (et (gS rfl (gS rfl (gS rfl (gS rfl (gS rfl g0))))) rfl)) ?_
                                                        refine p_step (by exact rfl) (y_load1 one_94 (et g0 rfl) (atS (k5.cell rfl))) ?_
                                                        refine p_step (by exact rfl) (y_moveV (et (gS rfl (gS rfl g0)) rfl)) ?_
                                                        refine p_step (by exact rfl) (y_fld fld_232_0 (et (gS rfl (gS rfl (gS rfl (gS rfl g0)))) rfl)) ?_
                                                        refine p_step (by exact rfl) (y_loadR agg_25 sz_25 (et g0 rfl) (by rw [length_bL, length_be]) (atSR (k185.row addr_row))) ?_
                                                        refine p_step (by exact rfl) (y_fld fld_232_1 (et (gS rfl (gS rfl (gS rfl (gS rfl (gS rfl (gS rfl g0)))))) rfl)) ?_
                                                        refine p_step (by exact rfl) (y_load1 one_95 (et g0 rfl) (atS (k185.cell ((app20 (i := 0) rfl).trans rfl)))) ?_
                                                        refine p_eff (by exact rfl) (e_callV cal_217 (aC (et g0 rfl) aN) (yp_natOf hF (hvk.mono hL0) (bd_up (bd_W hmk) (by decide)))) (fun v188 w188 h188 => ?_)
                                                        obtain ⟨H188, g188, n188⟩ := h188
                                                        have hlew188 := g188.le
                                                        replace nb2 := g188.nb nb2 k2.lt
                                                        replace nb5 := g188.nb nb5 k5.lt
                                                        replace nb173 := g188.nb nb173 k173.lt
                                                        replace nb185 := g188.nb nb185 k185.lt
                                                        replace hvr9 := hvr9.mono hlew188
                                                        replace hvl9 := hvl9.mono hlew188
                                                        replace lvFB2 := lvFB2.mono hlew188
                                                        replace lv99 := lv99.mono hlew188
                                                        replace lv102 := lv102.mono hlew188
                                                        replace lv105 := lv105.mono hlew188
                                                        replace hcp := hcp.mono hlew188
                                                        replace hL0 := hL0.trans hlew188
                                                        replace k2 := k2.up g188.up
                                                        replace k5 := k5.up g188.up
                                                        replace k173 := k173.up g188.up
                                                        replace k185 := k185.up g188.up
                                                        replace kS := kS.up g188.up
                                                        replace kL := kL.up g188.up
                                                        replace U := U.tr g188.up
                                                        replace G := G.tr g188
                                                        replace V178 := V178.tr g188
                                                        replace hF := g188.fz
                                                        obtain ⟨na188, nn188, nc188, rfl⟩ := n188.sl
                                                        refine ⟨.inr (SU.tr g188.up), ?_⟩
                                                        replace SU := SU.tr g188.up
                                                        exact (by
                                                          have hb189 : ∀ w, (Instr.build 232 ([(0, (Value.agg (bL (be 20 s.now.warmS[i].1)).toArray)), (1, (.slice na188 nn188 nc188))] : List (Nat × Value)).toArray).run Hvaa.prog w = .ok (.agg ([(bL (be 20 s.now.warmS[i].1)), ([(.slice na188 nn188 nc188)])] : List (List Value)).flatten.toArray) w := bld_run zr_232 plc_232 (fill_flat (off := 0) (k := 20) (f := (List.replicate 20 (.int .u8 0))) (c := bL (be 20 s.now.warmS[i].1)) (v := (Value.agg (bL (be 20 s.now.warmS[i].1)).toArray)) rfl rfl (by first | (simp [length_bL, length_be, length_uL]; done) | rfl) (by first | rfl | (simp [length_bL, length_be, length_uL]; done)) rfl (by first | (simp [length_bL, length_be, length_uL]; done) | rfl) (fill_flat (off := 20) (k := 1) (f := [.slice none 0 0]) (c := [(.slice na188 nn188 nc188)]) (v := (.slice na188 nn188 nc188)) rfl rfl (by first | (simp [length_bL, length_be, length_uL]; done) | rfl) (by first | (simp [length_bL, length_be, length_uL]; done) | rfl) rfl (by first | (simp [length_bL, length_be, length_uL]; done) | rfl) (fill_nil _ _)))
                                                          refine p_step (by exact rfl) ((y_bld (bC (et (gS rfl (gS rfl (gS rfl g0))) rfl) (bC (et g0 rfl) bN)) hb189).to (congrArg (fun l : List Value => Value.agg l.toArray) (show _ = bL (be 20 s.now.warmS[i].1) ++ [(.slice na188 nn188 nc188)] by simp))) ?_
                                                          have hfl : cs.flatten.length = i * 21 := by rw [hcp.len (by omega), hcl]
                                                          have hkr : 21 ≤ rest.length := by rw [hrl]; omega
                                                          refine p_step (by exact rfl) (y_idxSa rfl Hvaa.underlying94 sz_232 (et (gS rfl (gS rfl (gS rfl (gS rfl (gS rfl (gS rfl (gS rfl g0))))))) rfl) (et (gS rfl (gS rfl (gS rfl (gS rfl (gS rfl (gS rfl g0)))))) rfl) ?_) ?_
                                                          omega
                                                          refine p_effN (by exact rfl) (e_store sz_232 (et g0 rfl) (cellsV (et (gS rfl g0) rfl) rfl) len21 (by exact one_app (one_one rfl)) k173 (by (rw [List.size_toArray, List.length_append, hfl, hrl]; omega))) (fun v190 w190 h190 => ?_)
                                                          obtain ⟨rfl, x190⟩ := h190
                                                          replace k2 := k2.ch x190.ch (by omega)
                                                          replace k5 := k5.ch x190.ch (by omega)
                                                          replace k185 := k185.ch x190.ch (by omega)
                                                          replace kS := kS.ch x190.ch (by first | omega | (omega))
                                                          replace kL := kL.ch x190.ch (by first | omega | (intro q hq hm; have := dL q hq; omega))
                                                          replace k173 := x190.blk
                                                          replace G := G.wr x190 (by first | exact .inr f173 | omega | (simp; omega)) nb173
                                                          replace V178 := V178.wr x190 (by first | exact .inr f173 | omega | (simp; omega)) nb173
                                                          replace hF := G.fz
                                                          replace U := U.st x190 f173
                                                          refine ⟨.inl rfl, ?_⟩
                                                          rw [fill_rec hfl len21 hkr] at k173
                                                          refine p_nil ?_
                                                          refine hQ183 _ _ _ (in_normal ?_)
                                                          refine hK182 _ _ ?_
                                                          refine fg5 2 3 161 162 163 (gS rfl (gS rfl (gS rfl (gS rfl (gS rfl (gS rfl (gS rfl (gS rfl (gS rfl (gS rfl (gS rfl (gS rfl (gS rfl (gS rfl (gS rfl (gS rfl g0)))))))))))))))) (gS rfl (gS rfl (gS rfl (gS rfl (gS rfl (gS rfl (gS rfl (gS rfl (gS rfl (gS rfl (gS rfl (gS rfl (gS rfl (gS rfl (gS rfl g0))))))))))))))) (gS rfl (gS rfl (gS rfl (gS rfl (gS rfl (gS rfl (gS rfl (gS rfl (gS rfl (gS rfl (gS rfl (gS rfl (gS rfl (gS rfl g0)))))))))))))) (gS rfl (gS rfl (gS rfl (gS rfl (gS rfl (gS rfl (gS rfl (gS rfl (gS rfl (gS rfl (gS rfl (gS rfl (gS rfl g0))))))))))))) (gS rfl (gS rfl (gS rfl (gS rfl (gS rfl (gS rfl (gS rfl (gS rfl (gS rfl (gS rfl (gS rfl (gS rfl g0)))))))))))) (fun g => ?_)
                                                          refine c_region ?_
                                                          refine l_step (y_add (et g0 rfl) rfl (addIN (y := 1) ?_)) ?_
                                                          omega
                                                          refine l_step (y_moveV (et g0 rfl)) ?_
                                                          refine l_nil ?_
                                                          refine fK5 2 3 161 162 163 (gS rfl (gS rfl (gS rfl (gS rfl (gS rfl (gS rfl g0)))))) (gS rfl (gS rfl (gS rfl (gS rfl (gS rfl g0))))) (gS rfl (gS rfl (gS rfl (gS rfl g0)))) (gS rfl (gS rfl (gS rfl g0))) g0 (fun g => ?_)
                                                          exact hK178 (s.now.warmS.length - ((i + 1))) _ _ (by omega) ⟨g, _, _, _, (i + 1), rfl, rfl, by omega, by rw [List.length_append, hcl]; rfl, by rw [List.length_drop, hrl]; omega, hcp.snoc hcl hil len21 ⟨_, rfl, n188, hma, hmk⟩, k173, V178⟩)))
                                                  · skip
                                                    
                                                    have hil : i = s.now.warmS.length := by have := of_decide_eq_false cB8; omega
                                                    obtain rfl : rest = [] := List.length_eq_zero_iff.1 (by rw [hrl, hil]; omega)
                                                    rw [List.append_nil] at k173
                                                    obtain ⟨Hz191, Gz191, hlz191, hez191, hnz191⟩ := G.hold' k173 f173
                                                    replace G := Gz191
                                                    replace hF := G.fz
                                                    replace hvr9 := hvr9.mono hlz191
                                                    replace hvl9 := hvl9.mono hlz191
                                                    replace lvFB2 := lvFB2.mono hlz191
                                                    replace lv99 := lv99.mono hlz191
                                                    replace lv102 := lv102.mono hlz191
                                                    replace lv105 := lv105.mono hlz191
                                                    replace hcp := hcp.mono hlz191
                                                    replace hL0 := hL0.trans hlz191
                                                    replace nb2 := fun hh => (hnz191 _ hh).elim nb2 (by omega)
                                                    replace nb5 := fun hh => (hnz191 _ hh).elim nb5 (by omega)
                                                    have lvFB8 : LV P_mark 21 Hz191 (.slice (some ⟨b173, 0, none⟩) s.now.warmS.length s.now.warmS.length) s.now.warmS := LV.ofNew hez191 (Le.refl _) (by first | with_reducible exact mono_slot | with_reducible exact mono_acct | with_reducible exact mono_tri | with_reducible exact mono_mark) rfl (by omega) (by omega) hcp.get
                                                    refine c_exit ?_
                                                    refine hQ177 _ _ _ (in_exit ?_)
                                                    refine hK175 _ _ ?_
                                                    refine fg2 2 3 (gS rfl (gS rfl (gS rfl (gS rfl (gS rfl g0))))) (gS rfl (gS rfl (gS rfl (gS rfl g0)))) (fun g => ?_)
                                                    refine c_seq (fun K192 hK192 => ?_)
                                                    exact (by
                                                      refine c_region ?_
                                                      refine l_step (y_loadB agg_98 sz_98 (et g0 rfl) rfl (at1B k5)) ?_
                                                      refine l_effN (e_store sz_98 (et (gS rfl (gS rfl g0)) rfl) (cellsV (et g0 rfl) rfl) rfl (by intro v hv; simp only [List.mem_cons, List.not_mem_nil, or_false] at hv; rcases hv with rfl | rfl | rfl | rfl | rfl | rfl | rfl | rfl <;> rfl) k2 (by exact Nat.le_of_ble_eq_true rfl)) (fun v193 w193 h193 => ?_)
                                                      obtain ⟨rfl, x193⟩ := h193
                                                      replace k5 := k5.ch x193.ch (by omega)
                                                      replace kS := kS.ch x193.ch (by first | omega | (omega))
                                                      replace kL := kL.ch x193.ch (by first | omega | (intro q hq hm; have := dL q hq; omega))
                                                      replace k2 := x193.blk.full rfl
                                                      replace G := G.wr x193 (by first | exact .inr f2 | omega | (simp; omega)) nb2
                                                      replace hF := G.fz
                                                      replace U := U.st x193 f2
                                                      refine l_nil ?_
                                                      refine hK192 _ _ ?_
                                                      refine fg1 2 (gS rfl (gS rfl g0)) (fun g => ?_)
                                                      refine c_ret ?_
                                                      repeat with_reducible refine then_ret ?_
                                                      refine ret1 rfl (res_blk agg_98 sz_98 (et g0 rfl) (by first | (simp only [Value.cells, hV, aV, bV, wV, wL, List.size_toArray, length_bL, length_uL, length_be, size_spl, List.length_cons, List.length_nil, List.length_replicate, Nat.zero_add, Nat.reduceAdd, Nat.reduceLeDiff, Nat.le_refl]; done) | rfl) k2) ?_
                                                      exact ⟨_, _, rfl, G, ⟨_, _, _, _, _, _, _, _, rfl, lvFB2, lv99, lvFB8, hvr9, so.refund, hvl9, (by rw [List.length_eq_zero_iff.1 hzB5]; exact LV.nil _ _ _), lv102, lv105, _, _, rfl⟩⟩))))
                                        · skip
                                          
                                          have hzB7 : s.now.warmS.length = 0 := by
                                            cases h9 : sa with
                                            | none => exact nil_len (h9 ▸ hWS)
                                            | some x => rw [h9] at cB7; cases cB7
                                          refine c_skip ?_
                                          refine hK170 _ _ ?_
                                          refine fg3 0 2 3 (gS rfl (gS rfl (gS rfl g0))) (gS rfl (gS rfl g0)) (gS rfl g0) (fun g => ?_)
                                          refine c_seq (fun K194 hK194 => ?_)
                                          refine c_seq (fun K195 hK195 => ?_)
                                          exact (by
                                            refine c_region ?_
                                            refine l_step (y_moveV (et (gS rfl (gS rfl g0)) rfl)) ?_
                                            refine l_step (y_nil (et g0 rfl)) ?_
                                            refine l_step (y_fld fld_98_2 (et g0 rfl)) ?_
                                            refine l_step (y_load1 one_94 (et g0 rfl) (at1 (kS.cell (rS 2 _ rfl)))) ?_
                                            refine l_step (y_len Hvaa.underlying94 (et g0 rfl)) ?_
                                            refine l_step y_moveC ?_
                                            refine l_nil ?_
                                            refine hK195 _ _ ?_
                                            refine fg5 2 3 161 162 163 (gS rfl (gS rfl (gS rfl (gS rfl (gS rfl (gS rfl (gS rfl g0))))))) (gS rfl (gS rfl (gS rfl (gS rfl (gS rfl (gS rfl g0)))))) (gS rfl (gS rfl g0)) (gS rfl g0) g0 (fun g => ?_)
                                            refine c_block (fun Q196 hQ196 => ?_)
                                            refine fg5 2 3 161 162 163 (gS rfl (gS rfl (gS rfl (gS rfl g0)))) (gS rfl (gS rfl (gS rfl g0))) (gS rfl (gS rfl g0)) (gS rfl g0) g0 (fun g => ?_)
                                            refine c_loop (fun k_ s_ W197 => ∃ (g : Nat → Value) (Hk197 : Store) (i : Nat), s_ = (upd (upd (upd (upd (upd g 2 (.pointer (some ⟨b2, 0, none⟩))) 3 (.pointer (some ⟨b5, 0, none⟩))) 161 (.slice sa s.now.warmS.length sc)) 162 (.int .i64 (s.now.warmS.length : Nat))) 163 (.int .i64 (i : Nat))) ∧ s.now.warmS.length - i = k_ ∧ (i ≤ s.now.warmS.length) ∧ Go (fun k => False) W166 Hk166 W197 Hk197) (s.now.warmS.length - (0)) ?_ ?_
                                            · exact ⟨g, _, 0, rfl, rfl, Nat.zero_le _, Go.refl hF⟩
                                            · skip
                                              intro k_ s_ W197 hI K197 hK197
                                              obtain ⟨g, Hk197, i, rfl, rfl, hi, V197⟩ := hI
                                              have hle197 := V197.le
                                              replace nb2 := V197.nb nb2 k2.lt
                                              replace nb5 := V197.nb nb5 k5.lt
                                              replace hvr9 := hvr9.mono hle197
                                              replace hvl9 := hvl9.mono hle197
                                              replace lvFB2 := lvFB2.mono hle197
                                              replace lv99 := lv99.mono hle197
                                              replace lv102 := lv102.mono hle197
                                              replace lv105 := lv105.mono hle197
                                              replace hL0 := hL0.trans hle197
                                              replace G := G.trans V197 (by intro b hb; first | exact hb.elim | omega | (simp at hb ⊢; omega))
                                              replace hF := V197.fz
                                              replace k2 := k2.ch V197.ch (by exact fun h => h)
                                              replace k5 := k5.ch V197.ch (by exact fun h => h)
                                              replace kS := kS.ch V197.ch (by first | exact fun h => h | exact fun _ h => h.elim | exact fun _ _ h => h)
                                              replace kL := kL.ch V197.ch (by first | exact fun h => h | exact fun _ h => h.elim | exact fun _ _ h => h)
                                              replace U := U.cc V197.ch (by intro b hb; first | exact hb.elim | omega | (simp at hb ⊢; omega))
                                              refine c_seq (fun K198 hK198 => ?_)
                                              exact (by
                                                refine c_region ?_
                                                refine l_step (y_lss (et g0 rfl) (et (gS rfl g0) rfl)) ?_
                                                refine l_nil ?_
                                                refine hK198 _ _ ?_
                                                refine c_seq (fun K199 hK199 => ?_)
                                                refine c_cond (et g0 rfl) (fun cB8 => ?_) (fun cB8 => ?_)
                                                · skip
                                                  
                                                  have := of_decide_eq_true cB8; omega
                                                · skip
                                                  
                                                  refine c_exit ?_
                                                  refine hQ196 _ _ _ (in_exit ?_)
                                                  refine hK194 _ _ ?_
                                                  refine fg2 2 3 (gS rfl (gS rfl (gS rfl (gS rfl (gS rfl g0))))) (gS rfl (gS rfl (gS rfl (gS rfl g0)))) (fun g => ?_)
                                                  refine c_seq (fun K201 hK201 => ?_)
                                                  exact (by
                                                    refine c_region ?_
                                                    refine l_step (y_loadB agg_98 sz_98 (et g0 rfl) rfl (at1B k5)) ?_
                                                    refine l_effN (e_store sz_98 (et (gS rfl (gS rfl g0)) rfl) (cellsV (et g0 rfl) rfl) rfl (by intro v hv; simp only [List.mem_cons, List.not_mem_nil, or_false] at hv; rcases hv with rfl | rfl | rfl | rfl | rfl | rfl | rfl | rfl <;> rfl) k2 (by exact Nat.le_of_ble_eq_true rfl)) (fun v202 w202 h202 => ?_)
                                                    obtain ⟨rfl, x202⟩ := h202
                                                    replace k5 := k5.ch x202.ch (by omega)
                                                    replace kS := kS.ch x202.ch (by first | omega | (omega))
                                                    replace kL := kL.ch x202.ch (by first | omega | (intro q hq hm; have := dL q hq; omega))
                                                    replace k2 := x202.blk.full rfl
                                                    replace G := G.wr x202 (by first | exact .inr f2 | omega | (simp; omega)) nb2
                                                    replace hF := G.fz
                                                    replace U := U.st x202 f2
                                                    refine l_nil ?_
                                                    refine hK201 _ _ ?_
                                                    refine fg1 2 (gS rfl (gS rfl g0)) (fun g => ?_)
                                                    refine c_ret ?_
                                                    repeat with_reducible refine then_ret ?_
                                                    refine ret1 rfl (res_blk agg_98 sz_98 (et g0 rfl) (by first | (simp only [Value.cells, hV, aV, bV, wV, wL, List.size_toArray, length_bL, length_uL, length_be, size_spl, List.length_cons, List.length_nil, List.length_replicate, Nat.zero_add, Nat.reduceAdd, Nat.reduceLeDiff, Nat.le_refl]; done) | rfl) k2) ?_
                                                    exact ⟨_, _, rfl, G, ⟨_, _, _, _, _, _, _, _, rfl, lvFB2, lv99, (by rw [List.length_eq_zero_iff.1 hzB7]; exact LV.nil _ _ _), hvr9, so.refund, hvl9, (by rw [List.length_eq_zero_iff.1 hzB5]; exact LV.nil _ _ _), lv102, lv105, _, _, rfl⟩⟩)))))))))))))
        · skip
          
          have hzB1 : s.now.accts.length = 0 := by
            cases h9 : aa with
            | none => exact nil_len (h9 ▸ hAc)
            | some x => rw [h9] at cB1; cases cB1
          refine c_skip ?_
          refine hK22 _ _ ?_
          refine fg3 0 2 3 (gS rfl (gS rfl (gS rfl g0))) (gS rfl (gS rfl g0)) (gS rfl g0) (fun g => ?_)
          refine c_seq (fun K203 hK203 => ?_)
          refine c_seq (fun K204 hK204 => ?_)
          exact (by
            refine c_region ?_
            refine l_step (y_moveV (et (gS rfl (gS rfl g0)) rfl)) ?_
            refine l_step (y_nil (et g0 rfl)) ?_
            refine l_step (y_fld fld_98_0 (et g0 rfl)) ?_
            refine l_step (y_load1 one_92 (et g0 rfl) (at1 (kS.cell (rS 0 _ rfl)))) ?_
            refine l_step (y_len Hvaa.underlying92 (et g0 rfl)) ?_
            refine l_step y_moveC ?_
            refine l_nil ?_
            refine hK204 _ _ ?_
            refine fg6 0 2 3 39 40 41 (gS rfl (gS rfl (gS rfl (gS rfl (gS rfl (gS rfl (gS rfl (gS rfl g0)))))))) (gS rfl (gS rfl (gS rfl (gS rfl (gS rfl (gS rfl (gS rfl g0))))))) (gS rfl (gS rfl (gS rfl (gS rfl (gS rfl (gS rfl g0)))))) (gS rfl (gS rfl g0)) (gS rfl g0) g0 (fun g => ?_)
            refine c_block (fun Q205 hQ205 => ?_)
            refine fg6 0 2 3 39 40 41 (gS rfl (gS rfl (gS rfl (gS rfl (gS rfl g0))))) (gS rfl (gS rfl (gS rfl (gS rfl g0)))) (gS rfl (gS rfl (gS rfl g0))) (gS rfl (gS rfl g0)) (gS rfl g0) g0 (fun g => ?_)
            refine c_loop (fun k_ s_ W206 => ∃ (g : Nat → Value) (Hk206 : Store) (i : Nat), s_ = (upd (upd (upd (upd (upd (upd g 0 (.pointer (some ⟨bs, 0, none⟩))) 2 (.pointer (some ⟨b2, 0, none⟩))) 3 (.pointer (some ⟨b5, 0, none⟩))) 39 (.slice aa s.now.accts.length ac)) 40 (.int .i64 (s.now.accts.length : Nat))) 41 (.int .i64 (i : Nat))) ∧ s.now.accts.length - i = k_ ∧ (i ≤ s.now.accts.length) ∧ Go (fun k => False) w21 Hj4 W206 Hk206) (s.now.accts.length - (0)) ?_ ?_
            · exact ⟨g, _, 0, rfl, rfl, Nat.zero_le _, Go.refl hF⟩
            · skip
              intro k_ s_ W206 hI K206 hK206
              obtain ⟨g, Hk206, i, rfl, rfl, hi, V206⟩ := hI
              have hle206 := V206.le
              replace nb2 := V206.nb nb2 k2.lt
              replace nb5 := V206.nb nb5 k5.lt
              replace hvr9 := hvr9.mono hle206
              replace hvl9 := hvl9.mono hle206
              replace hL0 := hL0.trans hle206
              replace G := G.trans V206 (by intro b hb; first | exact hb.elim | omega | (simp at hb ⊢; omega))
              replace hF := V206.fz
              replace k2 := k2.ch V206.ch (by exact fun h => h)
              replace k5 := k5.ch V206.ch (by exact fun h => h)
              replace kS := kS.ch V206.ch (by first | exact fun h => h | exact fun _ h => h.elim | exact fun _ _ h => h)
              replace kL := kL.ch V206.ch (by first | exact fun h => h | exact fun _ h => h.elim | exact fun _ _ h => h)
              replace U := U.cc V206.ch (by intro b hb; first | exact hb.elim | omega | (simp at hb ⊢; omega))
              refine c_seq (fun K207 hK207 => ?_)
              exact (by
                refine c_region ?_
                refine l_step (y_lss (et g0 rfl) (et (gS rfl g0) rfl)) ?_
                refine l_nil ?_
                refine hK207 _ _ ?_
                refine c_seq (fun K208 hK208 => ?_)
                refine c_cond (et g0 rfl) (fun cB2 => ?_) (fun cB2 => ?_)
                · skip
                  
                  have := of_decide_eq_true cB2; omega
                · skip
                  
                  refine c_exit ?_
                  refine hQ205 _ _ _ (in_exit ?_)
                  refine hK203 _ _ ?_
                  refine fg3 0 2 3 (gS rfl (gS rfl (gS rfl (gS rfl (gS rfl (gS rfl g0)))))) (gS rfl (gS rfl (gS rfl (gS rfl (gS rfl g0))))) (gS rfl (gS rfl (gS rfl (gS rfl g0)))) (fun g => ?_)
                  refine c_seq (fun K210 hK210 => ?_)
                  exact (by
                    refine c_region ?_
                    refine l_step (y_moveV (et (gS rfl (gS rfl g0)) rfl)) ?_
                    refine l_step (y_nil (et g0 rfl)) ?_
                    refine l_step (y_fld fld_98_1 (et g0 rfl)) ?_
                    refine l_step (y_load1 one_93 (et g0 rfl) (at1 (kS.cell (rS 1 _ rfl)))) ?_
                    refine l_eff (e_callV cal_218 (aC (et g0 rfl) aN) (yp_addrsOf hF (hWA.mono hL0) (by omega))) (fun v211 w211 h211 => ?_)
                    obtain ⟨H211, g211, lv211⟩ := h211
                    have hlew211 := g211.le
                    replace nb2 := g211.nb nb2 k2.lt
                    replace nb5 := g211.nb nb5 k5.lt
                    replace hvr9 := hvr9.mono hlew211
                    replace hvl9 := hvl9.mono hlew211
                    replace hL0 := hL0.trans hlew211
                    replace k2 := k2.up g211.up
                    replace k5 := k5.up g211.up
                    replace kS := kS.up g211.up
                    replace kL := kL.up g211.up
                    replace U := U.tr g211.up
                    replace G := G.tr g211
                    replace hF := g211.fz
                    obtain ⟨xa211, xc211, rfl, hxl211, hxc211⟩ := lv211.val
                    refine l_step (y_fld fld_98_1 (et (gS rfl (gS rfl (gS rfl (gS rfl (gS rfl g0))))) rfl)) ?_
                    refine l_effN (e_store sz_93 (et g0 rfl) (cellsV (et (gS rfl g0) rfl) rfl) rfl (by first | exact one_bL _ | exact one_uL _ | (intro v hv; simp at hv; subst hv; rfl)) k5 (by first | exact Nat.le_of_ble_eq_true rfl | simp | omega)) (fun v212 w212 h212 => ?_)
                    obtain ⟨rfl, x212⟩ := h212
                    replace k2 := k2.ch x212.ch (by omega)
                    replace kS := kS.ch x212.ch (by first | omega | (omega))
                    replace kL := kL.ch x212.ch (by first | omega | (intro q hq hm; have := dL q hq; omega))
                    replace k5 := x212.blk
                    replace G := G.wr x212 (by first | exact .inr f5 | omega | (simp; omega)) nb5
                    replace hF := G.fz
                    replace U := U.st x212 f5
                    replace k5 : Blk w212 b5 [.slice none 0 0, .slice xa211 s.now.warmA.length xc211, .slice none 0 0, .slice ra1 ra2 ra3, .slice ya yn yn, .slice none 0 0, .slice none 0 0, .slice none 0 0].toArray := k5
                    refine l_nil ?_
                    refine hK210 _ _ ?_
                    refine fg3 0 2 3 (gS rfl (gS rfl (gS rfl (gS rfl (gS rfl (gS rfl (gS rfl (gS rfl g0)))))))) (gS rfl (gS rfl (gS rfl (gS rfl (gS rfl (gS rfl (gS rfl g0))))))) (gS rfl (gS rfl (gS rfl (gS rfl (gS rfl (gS rfl g0)))))) (fun g => ?_)
                    refine c_seq (fun K213 hK213 => ?_)
                    exact (by
                      refine c_region ?_
                      refine l_step (y_moveV (et (gS rfl (gS rfl g0)) rfl)) ?_
                      refine l_step (y_nil (et g0 rfl)) ?_
                      refine l_step (y_fld fld_98_6 (et g0 rfl)) ?_
                      refine l_step (y_load1 one_93 (et g0 rfl) (at1 (kS.cell (rS 6 _ rfl)))) ?_
                      refine l_eff (e_callV cal_218 (aC (et g0 rfl) aN) (yp_addrsOf hF (hMd.mono hL0) (by omega))) (fun v214 w214 h214 => ?_)
                      obtain ⟨H214, g214, lv214⟩ := h214
                      have hlew214 := g214.le
                      replace nb2 := g214.nb nb2 k2.lt
                      replace nb5 := g214.nb nb5 k5.lt
                      replace hvr9 := hvr9.mono hlew214
                      replace hvl9 := hvl9.mono hlew214
                      replace lv211 := lv211.mono hlew214
                      replace hL0 := hL0.trans hlew214
                      replace k2 := k2.up g214.up
                      replace k5 := k5.up g214.up
                      replace kS := kS.up g214.up
                      replace kL := kL.up g214.up
                      replace U := U.tr g214.up
                      replace G := G.tr g214
                      replace hF := g214.fz
                      obtain ⟨xa214, xc214, rfl, hxl214, hxc214⟩ := lv214.val
                      refine l_step (y_fld fld_98_6 (et (gS rfl (gS rfl (gS rfl (gS rfl (gS rfl g0))))) rfl)) ?_
                      refine l_effN (e_store sz_93 (et g0 rfl) (cellsV (et (gS rfl g0) rfl) rfl) rfl (by first | exact one_bL _ | exact one_uL _ | (intro v hv; simp at hv; subst hv; rfl)) k5 (by first | exact Nat.le_of_ble_eq_true rfl | simp | omega)) (fun v215 w215 h215 => ?_)
                      obtain ⟨rfl, x215⟩ := h215
                      replace k2 := k2.ch x215.ch (by omega)
                      replace kS := kS.ch x215.ch (by first | omega | (omega))
                      replace kL := kL.ch x215.ch (by first | omega | (intro q hq hm; have := dL q hq; omega))
                      replace k5 := x215.blk
                      replace G := G.wr x215 (by first | exact .inr f5 | omega | (simp; omega)) nb5
                      replace hF := G.fz
                      replace U := U.st x215 f5
                      replace k5 : Blk w215 b5 [.slice none 0 0, .slice xa211 s.now.warmA.length xc211, .slice none 0 0, .slice ra1 ra2 ra3, .slice ya yn yn, .slice none 0 0, .slice xa214 s.now.made.length xc214, .slice none 0 0].toArray := k5
                      refine l_nil ?_
                      refine hK213 _ _ ?_
                      refine fg3 0 2 3 (gS rfl (gS rfl (gS rfl (gS rfl (gS rfl (gS rfl (gS rfl (gS rfl g0)))))))) (gS rfl (gS rfl (gS rfl (gS rfl (gS rfl (gS rfl (gS rfl g0))))))) (gS rfl (gS rfl (gS rfl (gS rfl (gS rfl (gS rfl g0)))))) (fun g => ?_)
                      refine c_seq (fun K216 hK216 => ?_)
                      exact (by
                        refine c_region ?_
                        refine l_step (y_moveV (et (gS rfl (gS rfl g0)) rfl)) ?_
                        refine l_step (y_nil (et g0 rfl)) ?_
                        refine l_step (y_fld fld_98_7 (et g0 rfl)) ?_
                        refine l_step (y_load1 one_93 (et g0 rfl) (at1 (kS.cell (rS 7 _ rfl)))) ?_
                        refine l_eff (e_callV cal_218 (aC (et g0 rfl) aN) (yp_addrsOf hF (hGn.mono hL0) (by omega))) (fun v217 w217 h217 => ?_)
                        obtain ⟨H217, g217, lv217⟩ := h217
                        have hlew217 := g217.le
                        replace nb2 := g217.nb nb2 k2.lt
                        replace nb5 := g217.nb nb5 k5.lt
                        replace hvr9 := hvr9.mono hlew217
                        replace hvl9 := hvl9.mono hlew217
                        replace lv211 := lv211.mono hlew217
                        replace lv214 := lv214.mono hlew217
                        replace hL0 := hL0.trans hlew217
                        replace k2 := k2.up g217.up
                        replace k5 := k5.up g217.up
                        replace kS := kS.up g217.up
                        replace kL := kL.up g217.up
                        replace U := U.tr g217.up
                        replace G := G.tr g217
                        replace hF := g217.fz
                        obtain ⟨xa217, xc217, rfl, hxl217, hxc217⟩ := lv217.val
                        refine l_step (y_fld fld_98_7 (et (gS rfl (gS rfl (gS rfl (gS rfl (gS rfl g0))))) rfl)) ?_
                        refine l_effN (e_store sz_93 (et g0 rfl) (cellsV (et (gS rfl g0) rfl) rfl) rfl (by first | exact one_bL _ | exact one_uL _ | (intro v hv; simp at hv; subst hv; rfl)) k5 (by first | exact Nat.le_of_ble_eq_true rfl | simp | omega)) (fun v218 w218 h218 => ?_)
                        obtain ⟨rfl, x218⟩ := h218
                        replace k2 := k2.ch x218.ch (by omega)
                        replace kS := kS.ch x218.ch (by first | omega | (omega))
                        replace kL := kL.ch x218.ch (by first | omega | (intro q hq hm; have := dL q hq; omega))
                        replace k5 := x218.blk
                        replace G := G.wr x218 (by first | exact .inr f5 | omega | (simp; omega)) nb5
                        replace hF := G.fz
                        replace U := U.st x218 f5
                        replace k5 : Blk w218 b5 [.slice none 0 0, .slice xa211 s.now.warmA.length xc211, .slice none 0 0, .slice ra1 ra2 ra3, .slice ya yn yn, .slice none 0 0, .slice xa214 s.now.made.length xc214, .slice xa217 s.now.gone.length xc217].toArray := k5
                        refine l_nil ?_
                        refine hK216 _ _ ?_
                        refine fg3 0 2 3 (gS rfl (gS rfl (gS rfl (gS rfl (gS rfl (gS rfl (gS rfl (gS rfl g0)))))))) (gS rfl (gS rfl (gS rfl (gS rfl (gS rfl (gS rfl (gS rfl g0))))))) (gS rfl (gS rfl (gS rfl (gS rfl (gS rfl (gS rfl g0)))))) (fun g => ?_)
                        refine c_seq (fun K219 hK219 => ?_)
                        refine c_seq (fun K220 hK220 => ?_)
                        exact (by
                          refine c_region ?_
                          refine l_step (y_moveV (et (gS rfl (gS rfl g0)) rfl)) ?_
                          refine l_step (y_nil (et g0 rfl)) ?_
                          refine l_step (y_fld fld_98_5 (et g0 rfl)) ?_
                          refine l_step (y_load1 one_96 (et g0 rfl) (at1 (kS.cell (rS 5 _ rfl)))) ?_
                          refine l_step (y_neqNS Hvaa.underlying96 (et g0 rfl) rfl) ?_
                          refine l_nil ?_
                          refine hK220 _ _ ?_
                          refine fg4 0 2 3 114 (gS rfl (gS rfl (gS rfl (gS rfl (gS rfl (gS rfl (gS rfl g0))))))) (gS rfl (gS rfl (gS rfl (gS rfl (gS rfl (gS rfl g0)))))) (gS rfl (gS rfl (gS rfl (gS rfl (gS rfl g0))))) g0 (fun g => ?_)
                          refine c_cond (et g0 rfl) (fun cB5 => ?_) (fun cB5 => ?_)
                          · skip
                            
                            have hnB5 : ta ≠ none := fun e => by rw [e] at cB5; cases cB5
                            exact (by
                              refine c_region ?_
                              refine l_step (y_moveV (et (gS rfl (gS rfl (gS rfl g0))) rfl)) ?_
                              refine l_step (y_nil (et g0 rfl)) ?_
                              refine l_step (y_fld fld_98_5 (et g0 rfl)) ?_
                              refine l_step (y_load1 one_96 (et g0 rfl) (at1 (kS.cell (rS 5 _ rfl)))) ?_
                              refine l_step (y_len Hvaa.underlying96 (et g0 rfl)) ?_
                              refine l_eff (e_make Hvaa.underlying96 sz_295 zr_295 by_295 (et g0 rfl) (et g0 rfl) (by omega) (by omega)) (fun v222 w222 h222 => ?_)
                              obtain ⟨b222, rfl, n222⟩ := h222
                              have d2_222 : b2 < b222 := Nat.lt_of_lt_of_le k2.lt n222.fresh
                              have d5_222 : b5 < b222 := Nat.lt_of_lt_of_le k5.lt n222.fresh
                              have f222 : w.heap.size ≤ b222 := Nat.le_trans U.size n222.fresh
                              have nb222 := hF.nb n222.fresh
                              replace G := G.tr (Go.ofUp hF n222.up)
                              replace hF := hF.up n222.up
                              replace k2 := k2.up n222.up
                              replace k5 := k5.up n222.up
                              replace kS := kS.up n222.up
                              replace kL := kL.up n222.up
                              replace U := U.tr n222.up
                              have k222 := n222.blk
                              obtain ⟨rest0t, hr0t, k222⟩ := made_list k222
                              refine l_step (y_fld fld_98_5 (et (gS rfl (gS rfl (gS rfl (gS rfl (gS rfl (gS rfl (gS rfl g0))))))) rfl)) ?_
                              refine l_effN (e_store sz_96 (et g0 rfl) (cellsV (et (gS rfl g0) rfl) rfl) rfl (by first | exact one_bL _ | exact one_uL _ | (intro v hv; simp at hv; subst hv; rfl)) k5 (by first | exact Nat.le_of_ble_eq_true rfl | simp | omega)) (fun v223 w223 h223 => ?_)
                              obtain ⟨rfl, x223⟩ := h223
                              replace k2 := k2.ch x223.ch (by omega)
                              replace k222 := k222.ch x223.ch (by omega)
                              replace kS := kS.ch x223.ch (by first | omega | (omega))
                              replace kL := kL.ch x223.ch (by first | omega | (intro q hq hm; have := dL q hq; omega))
                              replace k5 := x223.blk
                              replace G := G.wr x223 (by first | exact .inr f5 | omega | (simp; omega)) nb5
                              replace hF := G.fz
                              replace U := U.st x223 f5
                              replace k5 : Blk w223 b5 [.slice none 0 0, .slice xa211 s.now.warmA.length xc211, .slice none 0 0, .slice ra1 ra2 ra3, .slice ya yn yn, .slice (some ⟨b222, 0, none⟩) s.now.temps.length s.now.temps.length, .slice xa214 s.now.made.length xc214, .slice xa217 s.now.gone.length xc217].toArray := k5
                              refine l_nil ?_
                              refine hK219 _ _ ?_
                              refine fg3 0 2 3 (gS rfl (gS rfl (gS rfl (gS rfl (gS rfl (gS rfl (gS rfl (gS rfl (gS rfl (gS rfl g0)))))))))) (gS rfl (gS rfl (gS rfl (gS rfl (gS rfl (gS rfl (gS rfl (gS rfl (gS rfl g0))))))))) (gS rfl (gS rfl (gS rfl (gS rfl (gS rfl (gS rfl (gS rfl (gS rfl g0)))))))) (fun g => ?_)
                              refine c_seq (fun K224 hK224 => ?_)
                              refine c_seq (fun K225 hK225 => ?_)
                              exact (by
                                refine c_region ?_
                                refine l_step (y_moveV (et (gS rfl (gS rfl g0)) rfl)) ?_
                                refine l_step (y_nil (et g0 rfl)) ?_
                                refine l_step (y_fld fld_98_5 (et g0 rfl)) ?_
                                refine l_step (y_load1 one_96 (et g0 rfl) (at1 (kS.cell (rS 5 _ rfl)))) ?_
                                refine l_step (y_len Hvaa.underlying96 (et g0 rfl)) ?_
                                refine l_step y_moveC ?_
                                refine l_nil ?_
                                refine hK225 _ _ ?_
                                refine fg6 0 2 3 125 126 127 (gS rfl (gS rfl (gS rfl (gS rfl (gS rfl (gS rfl (gS rfl (gS rfl g0)))))))) (gS rfl (gS rfl (gS rfl (gS rfl (gS rfl (gS rfl (gS rfl g0))))))) (gS rfl (gS rfl (gS rfl (gS rfl (gS rfl (gS rfl g0)))))) (gS rfl (gS rfl g0)) (gS rfl g0) g0 (fun g => ?_)
                                refine c_block (fun Q226 hQ226 => ?_)
                                refine fg6 0 2 3 125 126 127 (gS rfl (gS rfl (gS rfl (gS rfl (gS rfl g0))))) (gS rfl (gS rfl (gS rfl (gS rfl g0)))) (gS rfl (gS rfl (gS rfl g0))) (gS rfl (gS rfl g0)) (gS rfl g0) g0 (fun g => ?_)
                                refine c_loop (fun k_ s_ W227 => ∃ (g : Nat → Value) (Hk227 : Store) (cs : List (List Value)) (rest : List Value) (i : Nat), s_ = (upd (upd (upd (upd (upd (upd g 0 (.pointer (some ⟨bs, 0, none⟩))) 2 (.pointer (some ⟨b2, 0, none⟩))) 3 (.pointer (some ⟨b5, 0, none⟩))) 125 (.slice ta s.now.temps.length tc)) 126 (.int .i64 (s.now.temps.length : Nat))) 127 (.int .i64 (i : Nat))) ∧ s.now.temps.length - i = k_ ∧ (i ≤ s.now.temps.length) ∧ (cs.length = i) ∧ (rest.length = (s.now.temps.length - i) * 22) ∧ (CP P_tri 22 Hk227 cs s.now.temps) ∧ Blk W227 b222 ((cs.flatten ++ rest).toArray) ∧ Go (fun k => k = b222) w223 H217 W227 Hk227) (s.now.temps.length - (0)) ?_ ?_
                                · exact ⟨g, _, [], rest0t, 0, rfl, rfl, Nat.zero_le _, rfl, by rw [hr0t, Nat.sub_zero], CP.nil _ _ _ _, k222, Go.refl hF⟩
                                · skip
                                  intro k_ s_ W227 hI K227 hK227
                                  obtain ⟨g, Hk227, cs, rest, i, rfl, rfl, hi, hcl, hrl, hcp, nk222, V227⟩ := hI
                                  have hle227 := V227.le
                                  replace nb2 := V227.nb nb2 k2.lt
                                  replace nb5 := V227.nb nb5 k5.lt
                                  replace nb222 := V227.nb nb222 k222.lt
                                  replace hvr9 := hvr9.mono hle227
                                  replace hvl9 := hvl9.mono hle227
                                  replace lv211 := lv211.mono hle227
                                  replace lv214 := lv214.mono hle227
                                  replace lv217 := lv217.mono hle227
                                  replace hL0 := hL0.trans hle227
                                  replace G := G.trans V227 (by intro b hb; first | exact hb.elim | omega | (simp at hb ⊢; omega))
                                  replace hF := V227.fz
                                  replace k2 := k2.ch V227.ch (by omega)
                                  replace k5 := k5.ch V227.ch (by omega)
                                  replace kS := kS.ch V227.ch (by omega)
                                  replace kL := kL.ch V227.ch (by intro q hq hm; have := dL q hq; omega)
                                  replace k222 := nk222
                                  replace U := U.cc V227.ch (by intro b hb; first | exact hb.elim | omega | (simp at hb ⊢; omega))
                                  refine c_seq (fun K228 hK228 => ?_)
                                  exact (by
                                    refine c_region ?_
                                    refine l_step (y_lss (et g0 rfl) (et (gS rfl g0) rfl)) ?_
                                    refine l_nil ?_
                                    refine hK228 _ _ ?_
                                    refine c_seq (fun K229 hK229 => ?_)
                                    refine c_cond (et g0 rfl) (fun cB6 => ?_) (fun cB6 => ?_)
                                    · skip
                                      
                                      have hil : i < s.now.temps.length := by have := of_decide_eq_true cB6; omega
                                      refine c_skip ?_
                                      refine hK229 _ _ ?_
                                      refine fg6 0 2 3 125 126 127 (gS rfl (gS rfl (gS rfl (gS rfl (gS rfl (gS rfl g0)))))) (gS rfl (gS rfl (gS rfl (gS rfl (gS rfl g0))))) (gS rfl (gS rfl (gS rfl (gS rfl g0)))) (gS rfl (gS rfl (gS rfl g0))) (gS rfl (gS rfl g0)) (gS rfl g0) (fun g => ?_)
                                      refine c_seq (fun K231 hK231 => ?_)
                                      refine c_block (fun Q232 hQ232 => ?_)
                                      refine c_seq (fun K233 hK233 => ?_)
                                      exact (by
                                        refine c_region ?_
                                        refine l_step (y_moveV (et g0 rfl)) ?_
                                        have hF0 := hF.of hL0
                                        obtain ⟨bq, oq, r, ha0, hrow, hrr, vk, vv, hr1, hvk, hvv, hta, htk, htv⟩ := hTm.row hF0 (i := i) hil
                                        rw [hr1] at hrow hrr
                                        obtain ⟨ka1, ka2, ka3, rfl⟩ := hvk.sl
                                        obtain ⟨kb1, kb2, kb3, rfl⟩ := hvv.sl
                                        refine l_step (y_idxSa ha0 Hvaa.underlying96 sz_295 (et (gS rfl (gS rfl (gS rfl g0))) rfl) (et (gS rfl g0) rfl) ?_) ?_
                                        omega
                                        refine l_step (y_loadR agg_295 sz_295 (et g0 rfl) len22 (at1R hrow)) ?_
                                        refine l_eff (e_alloc zr_295) (fun v234 w234 h234 => ?_)
                                        obtain ⟨b234, rfl, n234⟩ := h234
                                        have d2_234 : b2 < b234 := Nat.lt_of_lt_of_le k2.lt n234.fresh
                                        have d5_234 : b5 < b234 := Nat.lt_of_lt_of_le k5.lt n234.fresh
                                        have d222_234 : b222 < b234 := Nat.lt_of_lt_of_le k222.lt n234.fresh
                                        have f234 : w.heap.size ≤ b234 := Nat.le_trans U.size n234.fresh
                                        have nb234 := hF.nb n234.fresh
                                        have fV227_234 := Nat.le_trans V227.ch.size n234.fresh
                                        replace G := G.tr (Go.ofUp hF n234.up)
                                        replace V227 := V227.tr (Go.ofUp hF n234.up)
                                        replace hF := hF.up n234.up
                                        replace k2 := k2.up n234.up
                                        replace k5 := k5.up n234.up
                                        replace k222 := k222.up n234.up
                                        replace kS := kS.up n234.up
                                        replace kL := kL.up n234.up
                                        replace U := U.tr n234.up
                                        have k234 := n234.blk
                                        refine l_step (y_assignV (et (gS rfl (gS rfl (gS rfl g0))) rfl)) ?_
                                        refine l_effN (e_store sz_295 (et (gS rfl g0) rfl) (cellsV (et (gS rfl (gS rfl g0)) rfl) rfl) len22 (by exact one_app (one_two rfl rfl)) k234 (by exact Nat.le_of_ble_eq_true rfl)) (fun v235 w235 h235 => ?_)
                                        obtain ⟨rfl, x235⟩ := h235
                                        replace k2 := k2.ch x235.ch (by omega)
                                        replace k5 := k5.ch x235.ch (by omega)
                                        replace k222 := k222.ch x235.ch (by omega)
                                        replace kS := kS.ch x235.ch (by first | omega | (omega))
                                        replace kL := kL.ch x235.ch (by first | omega | (intro q hq hm; have := dL q hq; omega))
                                        replace k234 := x235.blk.full (by rw [len22]; rfl)
                                        replace G := G.wr x235 (by first | exact .inr f234 | omega | (simp; omega)) nb234
                                        replace V227 := V227.wr x235 (by first | exact .inr f234 | omega | (simp; omega)) nb234
                                        replace hF := G.fz
                                        replace U := U.st x235 f234
                                        refine l_nil ?_
                                        refine hK233 _ _ ?_
                                        refine fg8 0 2 3 125 126 127 10 9 (gS rfl (gS rfl (gS rfl (gS rfl (gS rfl (gS rfl (gS rfl (gS rfl (gS rfl (gS rfl g0)))))))))) (gS rfl (gS rfl (gS rfl (gS rfl (gS rfl (gS rfl (gS rfl (gS rfl (gS rfl g0))))))))) (gS rfl (gS rfl (gS rfl (gS rfl (gS rfl (gS rfl (gS rfl (gS rfl g0)))))))) (gS rfl (gS rfl (gS rfl (gS rfl (gS rfl (gS rfl (gS rfl g0))))))) (gS rfl (gS rfl (gS rfl (gS rfl (gS rfl (gS rfl g0)))))) (gS rfl (gS rfl (gS rfl (gS rfl (gS rfl g0))))) (gS rfl g0) g0 (fun g => ?_)
                                        refine c_draw Up 13 [(0, true), (1, true), (2, true), (3, true), (4, true), (5, true), (6, true), (8, true), (9, true), (7, false), (10, false), (11, true), (12, true), (13, false)] (by kernel_rfl) (fun w236 hu => ⟨Up.refl _, ?_⟩)
                                        replace G := G.tr (Go.ofUp hF hu)
                                        replace V227 := V227.tr (Go.ofUp hF hu)
                                        replace hF := hF.up hu
                                        replace k2 := k2.up hu
                                        replace k5 := k5.up hu
                                        replace k222 := k222.up hu
                                        replace k234 := k234.up hu
                                        replace kS := kS.up hu
                                        replace kL := kL.up hu
                                        replace U := U.tr hu
                                        have SU := Up.refl w236
                                        exact (by
                                          refine p_step (by exact rfl) (y_fld fld_98_5 (et (gS rfl (gS rfl (gS rfl (gS rfl (gS rfl g0))))) rfl)) ?_
                                          refine p_step (by exact rfl) (y_load1 one_96 (et g0 rfl) (atS (k5.cell rfl))) ?_
                                          refine p_step (by exact rfl) (y_moveV (et (gS rfl (gS rfl g0)) rfl)) ?_
                                          refine p_step (by exact rfl) (y_fld fld_295_0 (et (gS rfl (gS rfl (gS rfl (gS rfl g0)))) rfl)) ?_
                                          refine p_step (by exact rfl) (y_loadR agg_25 sz_25 (et g0 rfl) (by rw [length_bL, length_be]) (atSR (k234.row addr_row))) ?_
                                          refine p_step (by exact rfl) (y_fld fld_295_1 (et (gS rfl (gS rfl (gS rfl (gS rfl (gS rfl (gS rfl g0)))))) rfl)) ?_
                                          refine p_step (by exact rfl) (y_load1 one_95 (et g0 rfl) (atS (k234.cell ((app20 (i := 0) rfl).trans rfl)))) ?_
                                          refine p_step (by exact rfl) (y_fld fld_295_2 (et (gS rfl (gS rfl (gS rfl (gS rfl (gS rfl (gS rfl (gS rfl (gS rfl g0)))))))) rfl)) ?_
                                          refine p_step (by exact rfl) (y_load1 one_95 (et g0 rfl) (atS (k234.cell ((app20 (i := 1) rfl).trans rfl)))) ?_
                                          refine p_eff (by exact rfl) (e_callV cal_217 (aC (et (gS rfl (gS rfl g0)) rfl) aN) (yp_natOf hF (hvk.mono hL0) (bd_up (bd_W htk) (by decide)))) (fun v237 w237 h237 => ?_)
                                          obtain ⟨H237, g237, n237⟩ := h237
                                          have hlew237 := g237.le
                                          replace nb2 := g237.nb nb2 k2.lt
                                          replace nb5 := g237.nb nb5 k5.lt
                                          replace nb222 := g237.nb nb222 k222.lt
                                          replace nb234 := g237.nb nb234 k234.lt
                                          replace hvr9 := hvr9.mono hlew237
                                          replace hvl9 := hvl9.mono hlew237
                                          replace lv211 := lv211.mono hlew237
                                          replace lv214 := lv214.mono hlew237
                                          replace lv217 := lv217.mono hlew237
                                          replace hcp := hcp.mono hlew237
                                          replace hL0 := hL0.trans hlew237
                                          replace k2 := k2.up g237.up
                                          replace k5 := k5.up g237.up
                                          replace k222 := k222.up g237.up
                                          replace k234 := k234.up g237.up
                                          replace kS := kS.up g237.up
                                          replace kL := kL.up g237.up
                                          replace U := U.tr g237.up
                                          replace G := G.tr g237
                                          replace V227 := V227.tr g237
                                          replace hF := g237.fz
                                          obtain ⟨na237, nn237, nc237, rfl⟩ := n237.sl
                                          refine ⟨.inr (SU.tr g237.up), ?_⟩
                                          replace SU := SU.tr g237.up
                                          exact (by
                                            refine p_eff (by exact rfl) (e_callV cal_217 (aC (et (gS rfl g0) rfl) aN) (yp_natOf hF (hvv.mono hL0) (bd_up (bd_W htv) (by decide)))) (fun v238 w238 h238 => ?_)
                                            obtain ⟨H238, g238, n238⟩ := h238
                                            have hlew238 := g238.le
                                            replace nb2 := g238.nb nb2 k2.lt
                                            replace nb5 := g238.nb nb5 k5.lt
                                            replace nb222 := g238.nb nb222 k222.lt
                                            replace nb234 := g238.nb nb234 k234.lt
                                            replace hvr9 := hvr9.mono hlew238
                                            replace hvl9 := hvl9.mono hlew238
                                            replace lv211 := lv211.mono hlew238
                                            replace lv214 := lv214.mono hlew238
                                            replace lv217 := lv217.mono hlew238
                                            replace hcp := hcp.mono hlew238
                                            replace n237 := n237.mono hlew238
                                            replace hL0 := hL0.trans hlew238
                                            replace k2 := k2.up g238.up
                                            replace k5 := k5.up g238.up
                                            replace k222 := k222.up g238.up
                                            replace k234 := k234.up g238.up
                                            replace kS := kS.up g238.up
                                            replace kL := kL.up g238.up
                                            replace U := U.tr g238.up
                                            replace G := G.tr g238
                                            replace V227 := V227.tr g238
                                            replace hF := g238.fz
                                            obtain ⟨na238, nn238, nc238, rfl⟩ := n238.sl
                                            refine ⟨.inr (SU.tr g238.up), ?_⟩
                                            replace SU := SU.tr g238.up
                                            have hb239 : ∀ w, (Instr.build 295 ([(0, (Value.agg (bL (be 20 s.now.temps[i].1)).toArray)), (1, (.slice na237 nn237 nc237)), (2, (.slice na238 nn238 nc238))] : List (Nat × Value)).toArray).run Hvaa.prog w = .ok (.agg ([(bL (be 20 s.now.temps[i].1)), ([(.slice na237 nn237 nc237)]), ([(.slice na238 nn238 nc238)])] : List (List Value)).flatten.toArray) w := bld_run zr_295 plc_295 (fill_flat (off := 0) (k := 20) (f := (List.replicate 20 (.int .u8 0))) (c := bL (be 20 s.now.temps[i].1)) (v := (Value.agg (bL (be 20 s.now.temps[i].1)).toArray)) rfl rfl (by first | (simp [length_bL, length_be, length_uL]; done) | rfl) (by first | rfl | (simp [length_bL, length_be, length_uL]; done)) rfl (by first | (simp [length_bL, length_be, length_uL]; done) | rfl) (fill_flat (off := 20) (k := 1) (f := [.slice none 0 0]) (c := [(.slice na237 nn237 nc237)]) (v := (.slice na237 nn237 nc237)) rfl rfl (by first | (simp [length_bL, length_be, length_uL]; done) | rfl) (by first | (simp [length_bL, length_be, length_uL]; done) | rfl) rfl (by first | (simp [length_bL, length_be, length_uL]; done) | rfl) (fill_flat (off := 21) (k := 1) (f := [.slice none 0 0]) (c := [(.slice na238 nn238 nc238)]) (v := (.slice na238 nn238 nc238)) rfl rfl (by first | (simp [length_bL, length_be, length_uL]; done) | rfl) (by first | (simp [length_bL, length_be, length_uL]; done) | rfl) rfl (by first | (simp [length_bL, length_be, length_uL]; done) | rfl) (fill_nil _ _))))
                                            refine p_step (by exact rfl) ((y_bld (bC (et (gS rfl (gS rfl (gS rfl (gS rfl (gS rfl (gS rfl g0)))))) rfl) (bC (et (gS rfl g0) rfl) (bC (et g0 rfl) bN))) hb239).to (congrArg (fun l : List Value => Value.agg l.toArray) (show _ = bL (be 20 s.now.temps[i].1) ++ [(.slice na237 nn237 nc237), (.slice na238 nn238 nc238)] by simp))) ?_
                                            have hfl : cs.flatten.length = i * 22 := by rw [hcp.len (by omega), hcl]
                                            have hkr : 22 ≤ rest.length := by rw [hrl]; omega
                                            refine p_step (by exact rfl) (y_idxSa rfl Hvaa.underlying96 sz_295 (et (gS rfl (gS rfl (gS rfl (gS rfl (gS rfl (gS rfl (gS rfl (gS rfl (gS rfl (gS rfl g0)))))))))) rfl) (et (gS rfl (gS rfl (gS rfl (gS rfl (gS rfl (gS rfl (gS rfl (gS rfl (gS rfl g0))))))))) rfl) ?_) ?_
                                            omega
                                            exact (by
                                              refine p_effN (by exact rfl) (e_store sz_295 (et g0 rfl) (cellsV (et (gS rfl g0) rfl) rfl) len22 (by exact one_app (one_two rfl rfl)) k222 (by (rw [List.size_toArray, List.length_append, hfl, hrl]; omega))) (fun v240 w240 h240 => ?_)
                                              obtain ⟨rfl, x240⟩ := h240
                                              replace k2 := k2.ch x240.ch (by omega)
                                              replace k5 := k5.ch x240.ch (by omega)
                                              replace k234 := k234.ch x240.ch (by omega)
                                              replace kS := kS.ch x240.ch (by first | omega | (omega))
                                              replace kL := kL.ch x240.ch (by first | omega | (intro q hq hm; have := dL q hq; omega))
                                              replace k222 := x240.blk
                                              replace G := G.wr x240 (by first | exact .inr f222 | omega | (simp; omega)) nb222
                                              replace V227 := V227.wr x240 (by first | exact .inr f222 | omega | (simp; omega)) nb222
                                              replace hF := G.fz
                                              replace U := U.st x240 f222
                                              refine ⟨.inl rfl, ?_⟩
                                              rw [fill_rec hfl len22 hkr] at k222
                                              refine p_nil ?_
                                              refine hQ232 _ _ _ (in_normal ?_)
                                              refine hK231 _ _ ?_
                                              refine fg6 0 2 3 125 126 127 (gS rfl (gS rfl (gS rfl (gS rfl (gS rfl (gS rfl (gS rfl (gS rfl (gS rfl (gS rfl (gS rfl (gS rfl (gS rfl (gS rfl (gS rfl (gS rfl (gS rfl (gS rfl (gS rfl (gS rfl g0)))))))))))))))))))) (gS rfl (gS rfl (gS rfl (gS rfl (gS rfl (gS rfl (gS rfl (gS rfl (gS rfl (gS rfl (gS rfl (gS rfl (gS rfl (gS rfl (gS rfl (gS rfl (gS rfl (gS rfl (gS rfl g0))))))))))))))))))) (gS rfl (gS rfl (gS rfl (gS rfl (gS rfl (gS rfl (gS rfl (gS rfl (gS rfl (gS rfl (gS rfl (gS rfl (gS rfl (gS rfl (gS rfl (gS rfl (gS rfl (gS rfl g0)))))))))))))))))) (gS rfl (gS rfl (gS rfl (gS rfl (gS rfl (gS rfl (gS rfl (gS rfl (gS rfl (gS rfl (gS rfl (gS rfl (gS rfl (gS rfl (gS rfl (gS rfl (gS rfl g0))))))))))))))))) (gS rfl (gS rfl (gS rfl (gS rfl (gS rfl (gS rfl (gS rfl (gS rfl (gS rfl (gS rfl (gS rfl (gS rfl (gS rfl (gS rfl (gS rfl (gS rfl g0)))))))))))))))) (gS rfl (gS rfl (gS rfl (gS rfl (gS rfl (gS rfl (gS rfl (gS rfl (gS rfl (gS rfl (gS rfl (gS rfl (gS rfl (gS rfl (gS rfl g0))))))))))))))) (fun g => ?_)
                                              refine c_region ?_
                                              refine l_step (y_add (et g0 rfl) rfl (addIN (y := 1) ?_)) ?_
                                              omega
                                              refine l_step (y_moveV (et g0 rfl)) ?_
                                              refine l_nil ?_
                                              refine fK6 0 2 3 125 126 127 (gS rfl (gS rfl (gS rfl (gS rfl (gS rfl (gS rfl (gS rfl g0))))))) (gS rfl (gS rfl (gS rfl (gS rfl (gS rfl (gS rfl g0)))))) (gS rfl (gS rfl (gS rfl (gS rfl (gS rfl g0))))) (gS rfl (gS rfl (gS rfl (gS rfl g0)))) (gS rfl (gS rfl (gS rfl g0))) g0 (fun g => ?_)
                                              exact hK227 (s.now.temps.length - ((i + 1))) _ _ (by omega) ⟨g, _, _, _, (i + 1), rfl, rfl, by omega, by rw [List.length_append, hcl]; rfl, by rw [List.length_drop, hrl]; omega, hcp.snoc hcl hil len22 ⟨_, _, rfl, n237, n238, hta, htk, htv⟩, k222, V227⟩))))
                                    · skip
                                      
                                      have hil : i = s.now.temps.length := by have := of_decide_eq_false cB6; omega
                                      obtain rfl : rest = [] := List.length_eq_zero_iff.1 (by rw [hrl, hil]; omega)
                                      rw [List.append_nil] at k222
                                      obtain ⟨Hz241, Gz241, hlz241, hez241, hnz241⟩ := G.hold' k222 f222
                                      replace G := Gz241
                                      replace hF := G.fz
                                      replace hvr9 := hvr9.mono hlz241
                                      replace hvl9 := hvl9.mono hlz241
                                      replace lv211 := lv211.mono hlz241
                                      replace lv214 := lv214.mono hlz241
                                      replace lv217 := lv217.mono hlz241
                                      replace hcp := hcp.mono hlz241
                                      replace hL0 := hL0.trans hlz241
                                      replace nb2 := fun hh => (hnz241 _ hh).elim nb2 (by omega)
                                      replace nb5 := fun hh => (hnz241 _ hh).elim nb5 (by omega)
                                      have lvFB6 : LV P_tri 22 Hz241 (.slice (some ⟨b222, 0, none⟩) s.now.temps.length s.now.temps.length) s.now.temps := LV.ofNew hez241 (Le.refl _) (by first | with_reducible exact mono_slot | with_reducible exact mono_acct | with_reducible exact mono_tri | with_reducible exact mono_mark) rfl (by omega) (by omega) hcp.get
                                      refine c_exit ?_
                                      refine hQ226 _ _ _ (in_exit ?_)
                                      refine hK224 _ _ ?_
                                      refine fg3 0 2 3 (gS rfl (gS rfl (gS rfl (gS rfl (gS rfl (gS rfl g0)))))) (gS rfl (gS rfl (gS rfl (gS rfl (gS rfl g0))))) (gS rfl (gS rfl (gS rfl (gS rfl g0)))) (fun g => ?_)
                                      refine c_seq (fun K242 hK242 => ?_)
                                      refine c_seq (fun K243 hK243 => ?_)
                                      exact (by
                                        refine c_region ?_
                                        refine l_step (y_moveV (et (gS rfl (gS rfl g0)) rfl)) ?_
                                        refine l_step (y_nil (et g0 rfl)) ?_
                                        refine l_step (y_fld fld_98_2 (et g0 rfl)) ?_
                                        refine l_step (y_load1 one_94 (et g0 rfl) (at1 (kS.cell (rS 2 _ rfl)))) ?_
                                        refine l_step (y_neqNS Hvaa.underlying94 (et g0 rfl) rfl) ?_
                                        refine l_nil ?_
                                        refine hK243 _ _ ?_
                                        refine fg4 0 2 3 150 (gS rfl (gS rfl (gS rfl (gS rfl (gS rfl (gS rfl (gS rfl g0))))))) (gS rfl (gS rfl (gS rfl (gS rfl (gS rfl (gS rfl g0)))))) (gS rfl (gS rfl (gS rfl (gS rfl (gS rfl g0))))) g0 (fun g => ?_)
                                        refine c_cond (et g0 rfl) (fun cB7 => ?_) (fun cB7 => ?_)
                                        · skip
                                          
                                          have hnB7 : sa ≠ none := fun e => by rw [e] at cB7; cases cB7
                                          exact (by
                                            refine c_region ?_
                                            refine l_step (y_moveV (et (gS rfl (gS rfl (gS rfl g0))) rfl)) ?_
                                            refine l_step (y_nil (et g0 rfl)) ?_
                                            refine l_step (y_fld fld_98_2 (et g0 rfl)) ?_
                                            refine l_step (y_load1 one_94 (et g0 rfl) (at1 (kS.cell (rS 2 _ rfl)))) ?_
                                            refine l_step (y_len Hvaa.underlying94 (et g0 rfl)) ?_
                                            refine l_eff (e_make Hvaa.underlying94 sz_232 zr_232 by_232 (et g0 rfl) (et g0 rfl) (by omega) (by omega)) (fun v245 w245 h245 => ?_)
                                            obtain ⟨b245, rfl, n245⟩ := h245
                                            have d2_245 : b2 < b245 := Nat.lt_of_lt_of_le k2.lt n245.fresh
                                            have d5_245 : b5 < b245 := Nat.lt_of_lt_of_le k5.lt n245.fresh
                                            have f245 : w.heap.size ≤ b245 := Nat.le_trans U.size n245.fresh
                                            have nb245 := hF.nb n245.fresh
                                            replace G := G.tr (Go.ofUp hF n245.up)
                                            replace hF := hF.up n245.up
                                            replace k2 := k2.up n245.up
                                            replace k5 := k5.up n245.up
                                            replace kS := kS.up n245.up
                                            replace kL := kL.up n245.up
                                            replace U := U.tr n245.up
                                            have k245 := n245.blk
                                            obtain ⟨rest0m, hr0m, k245⟩ := made_list k245
                                            refine l_step (y_fld fld_98_2 (et (gS rfl (gS rfl (gS rfl (gS rfl (gS rfl (gS rfl (gS rfl g0))))))) rfl)) ?_
                                            refine l_effN (e_store sz_94 (et g0 rfl) (cellsV (et (gS rfl g0) rfl) rfl) rfl (by first | exact one_bL _ | exact one_uL _ | (intro v hv; simp at hv; subst hv; rfl)) k5 (by first | exact Nat.le_of_ble_eq_true rfl | simp | omega)) (fun v246 w246 h246 => ?_)
                                            obtain ⟨rfl, x246⟩ := h246
                                            replace k2 := k2.ch x246.ch (by omega)
                                            replace k245 := k245.ch x246.ch (by omega)
                                            replace kS := kS.ch x246.ch (by first | omega | (omega))
                                            replace kL := kL.ch x246.ch (by first | omega | (intro q hq hm; have := dL q hq; omega))
                                            replace k5 := x246.blk
                                            replace G := G.wr x246 (by first | exact .inr f5 | omega | (simp; omega)) nb5
                                            replace hF := G.fz
                                            replace U := U.st x246 f5
                                            replace k5 : Blk w246 b5 [.slice none 0 0, .slice xa211 s.now.warmA.length xc211, .slice (some ⟨b245, 0, none⟩) s.now.warmS.length s.now.warmS.length, .slice ra1 ra2 ra3, .slice ya yn yn, .slice (some ⟨b222, 0, none⟩) s.now.temps.length s.now.temps.length, .slice xa214 s.now.made.length xc214, .slice xa217 s.now.gone.length xc217].toArray := k5
                                            refine l_nil ?_
                                            refine hK242 _ _ ?_
                                            refine fg3 0 2 3 (gS rfl (gS rfl (gS rfl (gS rfl (gS rfl (gS rfl (gS rfl (gS rfl (gS rfl (gS rfl g0)))))))))) (gS rfl (gS rfl (gS rfl (gS rfl (gS rfl (gS rfl (gS rfl (gS rfl (gS rfl g0))))))))) (gS rfl (gS rfl (gS rfl (gS rfl (gS rfl (gS rfl (gS rfl (gS rfl g0)))))))) (fun g => ?_)
                                            refine c_seq (fun K247 hK247 => ?_)
                                            refine c_seq (fun K248 hK248 => ?_)
                                            exact (by
                                              refine c_region ?_
                                              refine l_step (y_moveV (et (gS rfl (gS rfl g0)) rfl)) ?_
                                              refine l_step (y_nil (et g0 rfl)) ?_
                                              refine l_step (y_fld fld_98_2 (et g0 rfl)) ?_
                                              refine l_step (y_load1 one_94 (et g0 rfl) (at1 (kS.cell (rS 2 _ rfl)))) ?_
                                              refine l_step (y_len Hvaa.underlying94 (et g0 rfl)) ?_
                                              refine l_step y_moveC ?_
                                              refine l_nil ?_
                                              refine hK248 _ _ ?_
                                              refine fg5 2 3 161 162 163 (gS rfl (gS rfl (gS rfl (gS rfl (gS rfl (gS rfl (gS rfl g0))))))) (gS rfl (gS rfl (gS rfl (gS rfl (gS rfl (gS rfl g0)))))) (gS rfl (gS rfl g0)) (gS rfl g0) g0 (fun g => ?_)
                                              refine c_block (fun Q249 hQ249 => ?_)
                                              refine fg5 2 3 161 162 163 (gS rfl (gS rfl (gS rfl (gS rfl g0)))) (gS rfl (gS rfl (gS rfl g0))) (gS rfl (gS rfl g0)) (gS rfl g0) g0 (fun g => ?_)
                                              refine c_loop (fun k_ s_ W250 => ∃ (g : Nat → Value) (Hk250 : Store) (cs : List (List Value)) (rest : List Value) (i : Nat), s_ = (upd (upd (upd (upd (upd g 2 (.pointer (some ⟨b2, 0, none⟩))) 3 (.pointer (some ⟨b5, 0, none⟩))) 161 (.slice sa s.now.warmS.length sc)) 162 (.int .i64 (s.now.warmS.length : Nat))) 163 (.int .i64 (i : Nat))) ∧ s.now.warmS.length - i = k_ ∧ (i ≤ s.now.warmS.length) ∧ (cs.length = i) ∧ (rest.length = (s.now.warmS.length - i) * 21) ∧ (CP P_mark 21 Hk250 cs s.now.warmS) ∧ Blk W250 b245 ((cs.flatten ++ rest).toArray) ∧ Go (fun k => k = b245) w246 Hz241 W250 Hk250) (s.now.warmS.length - (0)) ?_ ?_
                                              · exact ⟨g, _, [], rest0m, 0, rfl, rfl, Nat.zero_le _, rfl, by rw [hr0m, Nat.sub_zero], CP.nil _ _ _ _, k245, Go.refl hF⟩
                                              · skip
                                                intro k_ s_ W250 hI K250 hK250
                                                obtain ⟨g, Hk250, cs, rest, i, rfl, rfl, hi, hcl, hrl, hcp, nk245, V250⟩ := hI
                                                have hle250 := V250.le
                                                replace nb2 := V250.nb nb2 k2.lt
                                                replace nb5 := V250.nb nb5 k5.lt
                                                replace nb245 := V250.nb nb245 k245.lt
                                                replace hvr9 := hvr9.mono hle250
                                                replace hvl9 := hvl9.mono hle250
                                                replace lv211 := lv211.mono hle250
                                                replace lv214 := lv214.mono hle250
                                                replace lv217 := lv217.mono hle250
                                                replace lvFB6 := lvFB6.mono hle250
                                                replace hL0 := hL0.trans hle250
                                                replace G := G.trans V250 (by intro b hb; first | exact hb.elim | omega | (simp at hb ⊢; omega))
                                                replace hF := V250.fz
                                                replace k2 := k2.ch V250.ch (by omega)
                                                replace k5 := k5.ch V250.ch (by omega)
                                                replace kS := kS.ch V250.ch (by omega)
                                                replace kL := kL.ch V250.ch (by intro q hq hm; have := dL q hq; omega)
                                                replace k245 := nk245
                                                replace U := U.cc V250.ch (by intro b hb; first | exact hb.elim | omega | (simp at hb ⊢; omega))
                                                refine c_seq (fun K251 hK251 => ?_)
                                                exact (by
                                                  refine c_region ?_
                                                  refine l_step (y_lss (et g0 rfl) (et (gS rfl g0) rfl)) ?_
                                                  refine l_nil ?_
                                                  refine hK251 _ _ ?_
                                                  refine c_seq (fun K252 hK252 => ?_)
                                                  refine c_cond (et g0 rfl) (fun cB8 => ?_) (fun cB8 => ?_)
                                                  · skip
                                                    
                                                    have hil : i < s.now.warmS.length := by have := of_decide_eq_true cB8; omega
                                                    refine c_skip ?_
                                                    refine hK252 _ _ ?_
                                                    refine fg5 2 3 161 162 163 (gS rfl (gS rfl (gS rfl (gS rfl (gS rfl g0))))) (gS rfl (gS rfl (gS rfl (gS rfl g0)))) (gS rfl (gS rfl (gS rfl g0))) (gS rfl (gS rfl g0)) (gS rfl g0) (fun g => ?_)
                                                    refine c_seq (fun K254 hK254 => ?_)
                                                    refine c_block (fun Q255 hQ255 => ?_)
                                                    refine c_seq (fun K256 hK256 => ?_)
                                                    exact (by
                                                      refine c_region ?_
                                                      refine l_step (y_moveV (et g0 rfl)) ?_
                                                      have hF0 := hF.of hL0
                                                      obtain ⟨bq, oq, r, ha0, hrow, hrr, vk, hr1, hvk, hma, hmk⟩ := hWS.row hF0 (i := i) hil
                                                      rw [hr1] at hrow hrr
                                                      obtain ⟨ka1, ka2, ka3, rfl⟩ := hvk.sl
                                                      refine l_step (y_idxSa ha0 Hvaa.underlying94 sz_232 (et (gS rfl (gS rfl (gS rfl g0))) rfl) (et (gS rfl g0) rfl) ?_) ?_
                                                      omega
                                                      refine l_step (y_loadR agg_232 sz_232 (et g0 rfl) len21 (at1R hrow)) ?_
                                                      refine l_eff (e_alloc zr_232) (fun v257 w257 h257 => ?_)
                                                      obtain ⟨b257, rfl, n257⟩ := h257
                                                      have d2_257 : b2 < b257 := Nat.lt_of_lt_of_le k2.lt n257.fresh
                                                      have d5_257 : b5 < b257 := Nat.lt_of_lt_of_le k5.lt n257.fresh
                                                      have d245_257 : b245 < b257 := Nat.lt_of_lt_of_le k245.lt n257.fresh
                                                      have f257 : w.heap.size ≤ b257 := Nat.le_trans U.size n257.fresh
                                                      have nb257 := hF.nb n257.fresh
                                                      have fV250_257 := Nat.le_trans V250.ch.size n257.fresh
                                                      replace G := G.tr (Go.ofUp hF n257.up)
                                                      replace V250 := V250.tr (Go.ofUp hF n257.up)
                                                      replace hF := hF.up n257.up
                                                      replace k2 := k2.up n257.up
                                                      replace k5 := k5.up n257.up
                                                      replace k245 := k245.up n257.up
                                                      replace kS := kS.up n257.up
                                                      replace kL := kL.up n257.up
                                                      replace U := U.tr n257.up
                                                      have k257 := n257.blk
                                                      refine l_step (y_assignV (et (gS rfl (gS rfl (gS rfl g0))) rfl)) ?_
                                                      refine l_effN (e_store sz_232 (et (gS rfl g0) rfl) (cellsV (et (gS rfl (gS rfl g0)) rfl) rfl) len21 (by exact one_app (one_one rfl)) k257 (by exact Nat.le_of_ble_eq_true rfl)) (fun v258 w258 h258 => ?_)
                                                      obtain ⟨rfl, x258⟩ := h258
                                                      replace k2 := k2.ch x258.ch (by omega)
                                                      replace k5 := k5.ch x258.ch (by omega)
                                                      replace k245 := k245.ch x258.ch (by omega)
                                                      replace kS := kS.ch x258.ch (by first | omega | (omega))
                                                      replace kL := kL.ch x258.ch (by first | omega | (intro q hq hm; have := dL q hq; omega))
                                                      replace k257 := x258.blk.full (by rw [len21]; rfl)
                                                      replace G := G.wr x258 (by first | exact .inr f257 | omega | (simp; omega)) nb257
                                                      replace V250 := V250.wr x258 (by first | exact .inr f257 | omega | (simp; omega)) nb257
                                                      replace hF := G.fz
                                                      replace U := U.st x258 f257
                                                      refine l_nil ?_
                                                      refine hK256 _ _ ?_
                                                      refine fg7 2 3 161 162 163 12 11 (gS rfl (gS rfl (gS rfl (gS rfl (gS rfl (gS rfl (gS rfl (gS rfl (gS rfl g0))))))))) (gS rfl (gS rfl (gS rfl (gS rfl (gS rfl (gS rfl (gS rfl (gS rfl g0)))))))) (gS rfl (gS rfl (gS rfl (gS rfl (gS rfl (gS rfl (gS rfl g0))))))) (gS rfl (gS rfl (gS rfl (gS rfl (gS rfl (gS rfl g0)))))) (gS rfl (gS rfl (gS rfl (gS rfl (gS rfl g0))))) (gS rfl g0) g0 (fun g => ?_)
                                                      refine c_draw Up 10 [(0, true), (1, true), (2, true), (3, true), (4, true), (5, true), (6, true), (7, false), (8, true), (9, true), (10, false)] (by kernel_rfl) (fun w259 hu => ⟨Up.refl _, ?_⟩)
                                                      replace G := G.tr (Go.ofUp hF hu)
                                                      replace V250 := V250.tr (Go.ofUp hF hu)
                                                      replace hF := hF.up hu
                                                      replace k2 := k2.up hu
                                                      replace k5 := k5.up hu
                                                      replace k245 := k245.up hu
                                                      replace k257 := k257.up hu
                                                      replace kS := kS.up hu
                                                      replace kL := kL.up hu
                                                      replace U := U.tr hu
                                                      have SU := Up.refl w259
                                                      exact (by
                                                        refine p_step (by exact rfl) (y_fld fld_98_2 (et (gS rfl (gS rfl (gS rfl (gS rfl (gS rfl g0))))) rfl)) ?_
                                                        refine p_step (by exact rfl) (y_load1 one_94 (et g0 rfl) (atS (k5.cell rfl))) ?_
                                                        refine p_step (by exact rfl) (y_moveV (et (gS rfl (gS rfl g0)) rfl)) ?_
                                                        refine p_step (by exact rfl) (y_fld fld_232_0 (et (gS rfl (gS rfl (gS rfl (gS rfl g0)))) rfl)) ?_
                                                        refine p_step (by exact rfl) (y_loadR agg_25 sz_25 (et g0 rfl) (by rw [length_bL, length_be]) (atSR (k257.row addr_row))) ?_
                                                        refine p_step (by exact rfl) (y_fld fld_232_1 (et (gS rfl (gS rfl (gS rfl (gS rfl (gS rfl (gS rfl g0)))))) rfl)) ?_
                                                        refine p_step (by exact rfl) (y_load1 one_95 (et g0 rfl) (atS (k257.cell ((app20 (i := 0) rfl).trans rfl)))) ?_
                                                        refine p_eff (by exact rfl) (e_callV cal_217 (aC (et g0 rfl) aN) (yp_natOf hF (hvk.mono hL0) (bd_up (bd_W hmk) (by decide)))) (fun v260 w260 h260 => ?_)
                                                        obtain ⟨H260, g260, n260⟩ := h260
                                                        have hlew260 := g260.le
                                                        replace nb2 := g260.nb nb2 k2.lt
                                                        replace nb5 := g260.nb nb5 k5.lt
                                                        replace nb245 := g260.nb nb245 k245.lt
                                                        replace nb257 := g260.nb nb257 k257.lt
                                                        replace hvr9 := hvr9.mono hlew260
                                                        replace hvl9 := hvl9.mono hlew260
                                                        replace lv211 := lv211.mono hlew260
                                                        replace lv214 := lv214.mono hlew260
                                                        replace lv217 := lv217.mono hlew260
                                                        replace lvFB6 := lvFB6.mono hlew260
                                                        replace hcp := hcp.mono hlew260
                                                        replace hL0 := hL0.trans hlew260
                                                        replace k2 := k2.up g260.up
                                                        replace k5 := k5.up g260.up
                                                        replace k245 := k245.up g260.up
                                                        replace k257 := k257.up g260.up
                                                        replace kS := kS.up g260.up
                                                        replace kL := kL.up g260.up
                                                        replace U := U.tr g260.up
                                                        replace G := G.tr g260
                                                        replace V250 := V250.tr g260
                                                        replace hF := g260.fz
                                                        obtain ⟨na260, nn260, nc260, rfl⟩ := n260.sl
                                                        refine ⟨.inr (SU.tr g260.up), ?_⟩
                                                        replace SU := SU.tr g260.up
                                                        exact (by
                                                          have hb261 : ∀ w, (Instr.build 232 ([(0, (Value.agg (bL (be 20 s.now.warmS[i].1)).toArray)), (1, (.slice na260 nn260 nc260))] : List (Nat × Value)).toArray).run Hvaa.prog w = .ok (.agg ([(bL (be 20 s.now.warmS[i].1)), ([(.slice na260 nn260 nc260)])] : List (List Value)).flatten.toArray) w := bld_run zr_232 plc_232 (fill_flat (off := 0) (k := 20) (f := (List.replicate 20 (.int .u8 0))) (c := bL (be 20 s.now.warmS[i].1)) (v := (Value.agg (bL (be 20 s.now.warmS[i].1)).toArray)) rfl rfl (by first | (simp [length_bL, length_be, length_uL]; done) | rfl) (by first | rfl | (simp [length_bL, length_be, length_uL]; done)) rfl (by first | (simp [length_bL, length_be, length_uL]; done) | rfl) (fill_flat (off := 20) (k := 1) (f := [.slice none 0 0]) (c := [(.slice na260 nn260 nc260)]) (v := (.slice na260 nn260 nc260)) rfl rfl (by first | (simp [length_bL, length_be, length_uL]; done) | rfl) (by first | (simp [length_bL, length_be, length_uL]; done) | rfl) rfl (by first | (simp [length_bL, length_be, length_uL]; done) | rfl) (fill_nil _ _)))
                                                          refine p_step (by exact rfl) ((y_bld (bC (et (gS rfl (gS rfl (gS rfl g0))) rfl) (bC (et g0 rfl) bN)) hb261).to (congrArg (fun l : List Value => Value.agg l.toArray) (show _ = bL (be 20 s.now.warmS[i].1) ++ [(.slice na260 nn260 nc260)] by simp))) ?_
                                                          have hfl : cs.flatten.length = i * 21 := by rw [hcp.len (by omega), hcl]
                                                          have hkr : 21 ≤ rest.length := by rw [hrl]; omega
                                                          refine p_step (by exact rfl) (y_idxSa rfl Hvaa.underlying94 sz_232 (et (gS rfl (gS rfl (gS rfl (gS rfl (gS rfl (gS rfl (gS rfl g0))))))) rfl) (et (gS rfl (gS rfl (gS rfl (gS rfl (gS rfl (gS rfl g0)))))) rfl) ?_) ?_
                                                          omega
                                                          refine p_effN (by exact rfl) (e_store sz_232 (et g0 rfl) (cellsV (et (gS rfl g0) rfl) rfl) len21 (by exact one_app (one_one rfl)) k245 (by (rw [List.size_toArray, List.length_append, hfl, hrl]; omega))) (fun v262 w262 h262 => ?_)
                                                          obtain ⟨rfl, x262⟩ := h262
                                                          replace k2 := k2.ch x262.ch (by omega)
                                                          replace k5 := k5.ch x262.ch (by omega)
                                                          replace k257 := k257.ch x262.ch (by omega)
                                                          replace kS := kS.ch x262.ch (by first | omega | (omega))
                                                          replace kL := kL.ch x262.ch (by first | omega | (intro q hq hm; have := dL q hq; omega))
                                                          replace k245 := x262.blk
                                                          replace G := G.wr x262 (by first | exact .inr f245 | omega | (simp; omega)) nb245
                                                          replace V250 := V250.wr x262 (by first | exact .inr f245 | omega | (simp; omega)) nb245
                                                          replace hF := G.fz
                                                          replace U := U.st x262 f245
                                                          refine ⟨.inl rfl, ?_⟩
                                                          rw [fill_rec hfl len21 hkr] at k245
                                                          refine p_nil ?_
                                                          refine hQ255 _ _ _ (in_normal ?_)
                                                          refine hK254 _ _ ?_
                                                          refine fg5 2 3 161 162 163 (gS rfl (gS rfl (gS rfl (gS rfl (gS rfl (gS rfl (gS rfl (gS rfl (gS rfl (gS rfl (gS rfl (gS rfl (gS rfl (gS rfl (gS rfl (gS rfl g0)))))))))))))))) (gS rfl (gS rfl (gS rfl (gS rfl (gS rfl (gS rfl (gS rfl (gS rfl (gS rfl (gS rfl (gS rfl (gS rfl (gS rfl (gS rfl (gS rfl g0))))))))))))))) (gS rfl (gS rfl (gS rfl (gS rfl (gS rfl (gS rfl (gS rfl (gS rfl (gS rfl (gS rfl (gS rfl (gS rfl (gS rfl (gS rfl g0)))))))))))))) (gS rfl (gS rfl (gS rfl (gS rfl (gS rfl (gS rfl (gS rfl (gS rfl (gS rfl (gS rfl (gS rfl (gS rfl (gS rfl g0))))))))))))) (gS rfl (gS rfl (gS rfl (gS rfl (gS rfl (gS rfl (gS rfl (gS rfl (gS rfl (gS rfl (gS rfl (gS rfl g0)))))))))))) (fun g => ?_)
                                                          refine c_region ?_
                                                          refine l_step (y_add (et g0 rfl) rfl (addIN (y := 1) ?_)) ?_
                                                          omega
                                                          refine l_step (y_moveV (et g0 rfl)) ?_
                                                          refine l_nil ?_
                                                          refine fK5 2 3 161 162 163 (gS rfl (gS rfl (gS rfl (gS rfl (gS rfl (gS rfl g0)))))) (gS rfl (gS rfl (gS rfl (gS rfl (gS rfl g0))))) (gS rfl (gS rfl (gS rfl (gS rfl g0)))) (gS rfl (gS rfl (gS rfl g0))) g0 (fun g => ?_)
                                                          exact hK250 (s.now.warmS.length - ((i + 1))) _ _ (by omega) ⟨g, _, _, _, (i + 1), rfl, rfl, by omega, by rw [List.length_append, hcl]; rfl, by rw [List.length_drop, hrl]; omega, hcp.snoc hcl hil len21 ⟨_, rfl, n260, hma, hmk⟩, k245, V250⟩)))
                                                  · skip
                                                    
                                                    have hil : i = s.now.warmS.length := by have := of_decide_eq_false cB8; omega
                                                    obtain rfl : rest = [] := List.length_eq_zero_iff.1 (by rw [hrl, hil]; omega)
                                                    rw [List.append_nil] at k245
                                                    obtain ⟨Hz263, Gz263, hlz263, hez263, hnz263⟩ := G.hold' k245 f245
                                                    replace G := Gz263
                                                    replace hF := G.fz
                                                    replace hvr9 := hvr9.mono hlz263
                                                    replace hvl9 := hvl9.mono hlz263
                                                    replace lv211 := lv211.mono hlz263
                                                    replace lv214 := lv214.mono hlz263
                                                    replace lv217 := lv217.mono hlz263
                                                    replace lvFB6 := lvFB6.mono hlz263
                                                    replace hcp := hcp.mono hlz263
                                                    replace hL0 := hL0.trans hlz263
                                                    replace nb2 := fun hh => (hnz263 _ hh).elim nb2 (by omega)
                                                    replace nb5 := fun hh => (hnz263 _ hh).elim nb5 (by omega)
                                                    have lvFB8 : LV P_mark 21 Hz263 (.slice (some ⟨b245, 0, none⟩) s.now.warmS.length s.now.warmS.length) s.now.warmS := LV.ofNew hez263 (Le.refl _) (by first | with_reducible exact mono_slot | with_reducible exact mono_acct | with_reducible exact mono_tri | with_reducible exact mono_mark) rfl (by omega) (by omega) hcp.get
                                                    refine c_exit ?_
                                                    refine hQ249 _ _ _ (in_exit ?_)
                                                    refine hK247 _ _ ?_
                                                    refine fg2 2 3 (gS rfl (gS rfl (gS rfl (gS rfl (gS rfl g0))))) (gS rfl (gS rfl (gS rfl (gS rfl g0)))) (fun g => ?_)
                                                    refine c_seq (fun K264 hK264 => ?_)
                                                    exact (by
                                                      refine c_region ?_
                                                      refine l_step (y_loadB agg_98 sz_98 (et g0 rfl) rfl (at1B k5)) ?_
                                                      refine l_effN (e_store sz_98 (et (gS rfl (gS rfl g0)) rfl) (cellsV (et g0 rfl) rfl) rfl (by intro v hv; simp only [List.mem_cons, List.not_mem_nil, or_false] at hv; rcases hv with rfl | rfl | rfl | rfl | rfl | rfl | rfl | rfl <;> rfl) k2 (by exact Nat.le_of_ble_eq_true rfl)) (fun v265 w265 h265 => ?_)
                                                      obtain ⟨rfl, x265⟩ := h265
                                                      replace k5 := k5.ch x265.ch (by omega)
                                                      replace kS := kS.ch x265.ch (by first | omega | (omega))
                                                      replace kL := kL.ch x265.ch (by first | omega | (intro q hq hm; have := dL q hq; omega))
                                                      replace k2 := x265.blk.full rfl
                                                      replace G := G.wr x265 (by first | exact .inr f2 | omega | (simp; omega)) nb2
                                                      replace hF := G.fz
                                                      replace U := U.st x265 f2
                                                      refine l_nil ?_
                                                      refine hK264 _ _ ?_
                                                      refine fg1 2 (gS rfl (gS rfl g0)) (fun g => ?_)
                                                      refine c_ret ?_
                                                      repeat with_reducible refine then_ret ?_
                                                      refine ret1 rfl (res_blk agg_98 sz_98 (et g0 rfl) (by first | (simp only [Value.cells, hV, aV, bV, wV, wL, List.size_toArray, length_bL, length_uL, length_be, size_spl, List.length_cons, List.length_nil, List.length_replicate, Nat.zero_add, Nat.reduceAdd, Nat.reduceLeDiff, Nat.le_refl]; done) | rfl) k2) ?_
                                                      exact ⟨_, _, rfl, G, ⟨_, _, _, _, _, _, _, _, rfl, (by rw [List.length_eq_zero_iff.1 hzB1]; exact LV.nil _ _ _), lv211, lvFB8, hvr9, so.refund, hvl9, lvFB6, lv214, lv217, _, _, rfl⟩⟩))))
                                        · skip
                                          
                                          have hzB7 : s.now.warmS.length = 0 := by
                                            cases h9 : sa with
                                            | none => exact nil_len (h9 ▸ hWS)
                                            | some x => rw [h9] at cB7; cases cB7
                                          refine c_skip ?_
                                          refine hK242 _ _ ?_
                                          refine fg3 0 2 3 (gS rfl (gS rfl (gS rfl g0))) (gS rfl (gS rfl g0)) (gS rfl g0) (fun g => ?_)
                                          refine c_seq (fun K266 hK266 => ?_)
                                          refine c_seq (fun K267 hK267 => ?_)
                                          exact (by
                                            refine c_region ?_
                                            refine l_step (y_moveV (et (gS rfl (gS rfl g0)) rfl)) ?_
                                            refine l_step (y_nil (et g0 rfl)) ?_
                                            refine l_step (y_fld fld_98_2 (et g0 rfl)) ?_
                                            refine l_step (y_load1 one_94 (et g0 rfl) (at1 (kS.cell (rS 2 _ rfl)))) ?_
                                            refine l_step (y_len Hvaa.underlying94 (et g0 rfl)) ?_
                                            refine l_step y_moveC ?_
                                            refine l_nil ?_
                                            refine hK267 _ _ ?_
                                            refine fg5 2 3 161 162 163 (gS rfl (gS rfl (gS rfl (gS rfl (gS rfl (gS rfl (gS rfl g0))))))) (gS rfl (gS rfl (gS rfl (gS rfl (gS rfl (gS rfl g0)))))) (gS rfl (gS rfl g0)) (gS rfl g0) g0 (fun g => ?_)
                                            refine c_block (fun Q268 hQ268 => ?_)
                                            refine fg5 2 3 161 162 163 (gS rfl (gS rfl (gS rfl (gS rfl g0)))) (gS rfl (gS rfl (gS rfl g0))) (gS rfl (gS rfl g0)) (gS rfl g0) g0 (fun g => ?_)
                                            refine c_loop (fun k_ s_ W269 => ∃ (g : Nat → Value) (Hk269 : Store) (i : Nat), s_ = (upd (upd (upd (upd (upd g 2 (.pointer (some ⟨b2, 0, none⟩))) 3 (.pointer (some ⟨b5, 0, none⟩))) 161 (.slice sa s.now.warmS.length sc)) 162 (.int .i64 (s.now.warmS.length : Nat))) 163 (.int .i64 (i : Nat))) ∧ s.now.warmS.length - i = k_ ∧ (i ≤ s.now.warmS.length) ∧ Go (fun k => False) W227 Hz241 W269 Hk269) (s.now.warmS.length - (0)) ?_ ?_
                                            · exact ⟨g, _, 0, rfl, rfl, Nat.zero_le _, Go.refl hF⟩
                                            · skip
                                              intro k_ s_ W269 hI K269 hK269
                                              obtain ⟨g, Hk269, i, rfl, rfl, hi, V269⟩ := hI
                                              have hle269 := V269.le
                                              replace nb2 := V269.nb nb2 k2.lt
                                              replace nb5 := V269.nb nb5 k5.lt
                                              replace hvr9 := hvr9.mono hle269
                                              replace hvl9 := hvl9.mono hle269
                                              replace lv211 := lv211.mono hle269
                                              replace lv214 := lv214.mono hle269
                                              replace lv217 := lv217.mono hle269
                                              replace lvFB6 := lvFB6.mono hle269
                                              replace hL0 := hL0.trans hle269
                                              replace G := G.trans V269 (by intro b hb; first | exact hb.elim | omega | (simp at hb ⊢; omega))
                                              replace hF := V269.fz
                                              replace k2 := k2.ch V269.ch (by exact fun h => h)
                                              replace k5 := k5.ch V269.ch (by exact fun h => h)
                                              replace kS := kS.ch V269.ch (by first | exact fun h => h | exact fun _ h => h.elim | exact fun _ _ h => h)
                                              replace kL := kL.ch V269.ch (by first | exact fun h => h | exact fun _ h => h.elim | exact fun _ _ h => h)
                                              replace U := U.cc V269.ch (by intro b hb; first | exact hb.elim | omega | (simp at hb ⊢; omega))
                                              refine c_seq (fun K270 hK270 => ?_)
                                              exact (by
                                                refine c_region ?_
                                                refine l_step (y_lss (et g0 rfl) (et (gS rfl g0) rfl)) ?_
                                                refine l_nil ?_
                                                refine hK270 _ _ ?_
                                                refine c_seq (fun K271 hK271 => ?_)
                                                refine c_cond (et g0 rfl) (fun cB8 => ?_) (fun cB8 => ?_)
                                                · skip
                                                  
                                                  have := of_decide_eq_true cB8; omega
                                                · skip
                                                  
                                                  refine c_exit ?_
                                                  refine hQ268 _ _ _ (in_exit ?_)
                                                  refine hK266 _ _ ?_
                                                  refine fg2 2 3 (gS rfl (gS rfl (gS rfl (gS rfl (gS rfl g0))))) (gS rfl (gS rfl (gS rfl (gS rfl g0)))) (fun g => ?_)
                                                  refine c_seq (fun K273 hK273 => ?_)
                                                  exact (by
                                                    refine c_region ?_
                                                    refine l_step (y_loadB agg_98 sz_98 (et g0 rfl) rfl (at1B k5)) ?_
                                                    refine l_effN (e_store sz_98 (et (gS rfl (gS rfl g0)) rfl) (cellsV (et g0 rfl) rfl) rfl (by intro v hv; simp only [List.mem_cons, List.not_mem_nil, or_false] at hv; rcases hv with rfl | rfl | rfl | rfl | rfl | rfl | rfl | rfl <;> rfl) k2 (by exact Nat.le_of_ble_eq_true rfl)) (fun v274 w274 h274 => ?_)
                                                    obtain ⟨rfl, x274⟩ := h274
                                                    replace k5 := k5.ch x274.ch (by omega)
                                                    replace kS := kS.ch x274.ch (by first | omega | (omega))
                                                    replace kL := kL.ch x274.ch (by first | omega | (intro q hq hm; have := dL q hq; omega))
                                                    replace k2 := x274.blk.full rfl
                                                    replace G := G.wr x274 (by first | exact .inr f2 | omega | (simp; omega)) nb2
                                                    replace hF := G.fz
                                                    replace U := U.st x274 f2
                                                    refine l_nil ?_
                                                    refine hK273 _ _ ?_
                                                    refine fg1 2 (gS rfl (gS rfl g0)) (fun g => ?_)
                                                    refine c_ret ?_
                                                    repeat with_reducible refine then_ret ?_
                                                    refine ret1 rfl (res_blk agg_98 sz_98 (et g0 rfl) (by first | (simp only [Value.cells, hV, aV, bV, wV, wL, List.size_toArray, length_bL, length_uL, length_be, size_spl, List.length_cons, List.length_nil, List.length_replicate, Nat.zero_add, Nat.reduceAdd, Nat.reduceLeDiff, Nat.le_refl]; done) | rfl) k2) ?_
                                                    exact ⟨_, _, rfl, G, ⟨_, _, _, _, _, _, _, _, rfl, (by rw [List.length_eq_zero_iff.1 hzB1]; exact LV.nil _ _ _), lv211, (by rw [List.length_eq_zero_iff.1 hzB7]; exact LV.nil _ _ _), hvr9, so.refund, hvl9, lvFB6, lv214, lv217, _, _, rfl⟩⟩)))))))
                          · skip
                            
                            have hzB5 : s.now.temps.length = 0 := by
                              cases h9 : ta with
                              | none => exact nil_len (h9 ▸ hTm)
                              | some x => rw [h9] at cB5; cases cB5
                            refine c_skip ?_
                            refine hK219 _ _ ?_
                            refine fg3 0 2 3 (gS rfl (gS rfl (gS rfl g0))) (gS rfl (gS rfl g0)) (gS rfl g0) (fun g => ?_)
                            refine c_seq (fun K275 hK275 => ?_)
                            refine c_seq (fun K276 hK276 => ?_)
                            exact (by
                              refine c_region ?_
                              refine l_step (y_moveV (et (gS rfl (gS rfl g0)) rfl)) ?_
                              refine l_step (y_nil (et g0 rfl)) ?_
                              refine l_step (y_fld fld_98_5 (et g0 rfl)) ?_
                              refine l_step (y_load1 one_96 (et g0 rfl) (at1 (kS.cell (rS 5 _ rfl)))) ?_
                              refine l_step (y_len Hvaa.underlying96 (et g0 rfl)) ?_
                              refine l_step y_moveC ?_
                              refine l_nil ?_
                              refine hK276 _ _ ?_
                              refine fg6 0 2 3 125 126 127 (gS rfl (gS rfl (gS rfl (gS rfl (gS rfl (gS rfl (gS rfl (gS rfl g0)))))))) (gS rfl (gS rfl (gS rfl (gS rfl (gS rfl (gS rfl (gS rfl g0))))))) (gS rfl (gS rfl (gS rfl (gS rfl (gS rfl (gS rfl g0)))))) (gS rfl (gS rfl g0)) (gS rfl g0) g0 (fun g => ?_)
                              refine c_block (fun Q277 hQ277 => ?_)
                              refine fg6 0 2 3 125 126 127 (gS rfl (gS rfl (gS rfl (gS rfl (gS rfl g0))))) (gS rfl (gS rfl (gS rfl (gS rfl g0)))) (gS rfl (gS rfl (gS rfl g0))) (gS rfl (gS rfl g0)) (gS rfl g0) g0 (fun g => ?_)
                              refine c_loop (fun k_ s_ W278 => ∃ (g : Nat → Value) (Hk278 : Store) (i : Nat), s_ = (upd (upd (upd (upd (upd (upd g 0 (.pointer (some ⟨bs, 0, none⟩))) 2 (.pointer (some ⟨b2, 0, none⟩))) 3 (.pointer (some ⟨b5, 0, none⟩))) 125 (.slice ta s.now.temps.length tc)) 126 (.int .i64 (s.now.temps.length : Nat))) 127 (.int .i64 (i : Nat))) ∧ s.now.temps.length - i = k_ ∧ (i ≤ s.now.temps.length) ∧ Go (fun k => False) w218 H217 W278 Hk278) (s.now.temps.length - (0)) ?_ ?_
                              · exact ⟨g, _, 0, rfl, rfl, Nat.zero_le _, Go.refl hF⟩
                              · skip
                                intro k_ s_ W278 hI K278 hK278
                                obtain ⟨g, Hk278, i, rfl, rfl, hi, V278⟩ := hI
                                have hle278 := V278.le
                                replace nb2 := V278.nb nb2 k2.lt
                                replace nb5 := V278.nb nb5 k5.lt
                                replace hvr9 := hvr9.mono hle278
                                replace hvl9 := hvl9.mono hle278
                                replace lv211 := lv211.mono hle278
                                replace lv214 := lv214.mono hle278
                                replace lv217 := lv217.mono hle278
                                replace hL0 := hL0.trans hle278
                                replace G := G.trans V278 (by intro b hb; first | exact hb.elim | omega | (simp at hb ⊢; omega))
                                replace hF := V278.fz
                                replace k2 := k2.ch V278.ch (by exact fun h => h)
                                replace k5 := k5.ch V278.ch (by exact fun h => h)
                                replace kS := kS.ch V278.ch (by first | exact fun h => h | exact fun _ h => h.elim | exact fun _ _ h => h)
                                replace kL := kL.ch V278.ch (by first | exact fun h => h | exact fun _ h => h.elim | exact fun _ _ h => h)
                                replace U := U.cc V278.ch (by intro b hb; first | exact hb.elim | omega | (simp at hb ⊢; omega))
                                refine c_seq (fun K279 hK279 => ?_)
                                exact (by
                                  refine c_region ?_
                                  refine l_step (y_lss (et g0 rfl) (et (gS rfl g0) rfl)) ?_
                                  refine l_nil ?_
                                  refine hK279 _ _ ?_
                                  refine c_seq (fun K280 hK280 => ?_)
                                  refine c_cond (et g0 rfl) (fun cB6 => ?_) (fun cB6 => ?_)
                                  · skip
                                    
                                    have := of_decide_eq_true cB6; omega
                                  · skip
                                    
                                    refine c_exit ?_
                                    refine hQ277 _ _ _ (in_exit ?_)
                                    refine hK275 _ _ ?_
                                    refine fg3 0 2 3 (gS rfl (gS rfl (gS rfl (gS rfl (gS rfl (gS rfl g0)))))) (gS rfl (gS rfl (gS rfl (gS rfl (gS rfl g0))))) (gS rfl (gS rfl (gS rfl (gS rfl g0)))) (fun g => ?_)
                                    refine c_seq (fun K282 hK282 => ?_)
                                    refine c_seq (fun K283 hK283 => ?_)
                                    exact (by
                                      refine c_region ?_
                                      refine l_step (y_moveV (et (gS rfl (gS rfl g0)) rfl)) ?_
                                      refine l_step (y_nil (et g0 rfl)) ?_
                                      refine l_step (y_fld fld_98_2 (et g0 rfl)) ?_
                                      refine l_step (y_load1 one_94 (et g0 rfl) (at1 (kS.cell (rS 2 _ rfl)))) ?_
                                      refine l_step (y_neqNS Hvaa.underlying94 (et g0 rfl) rfl) ?_
                                      refine l_nil ?_
                                      refine hK283 _ _ ?_
                                      refine fg4 0 2 3 150 (gS rfl (gS rfl (gS rfl (gS rfl (gS rfl (gS rfl (gS rfl g0))))))) (gS rfl (gS rfl (gS rfl (gS rfl (gS rfl (gS rfl g0)))))) (gS rfl (gS rfl (gS rfl (gS rfl (gS rfl g0))))) g0 (fun g => ?_)
                                      refine c_cond (et g0 rfl) (fun cB7 => ?_) (fun cB7 => ?_)
                                      · skip
                                        
                                        have hnB7 : sa ≠ none := fun e => by rw [e] at cB7; cases cB7
                                        exact (by
                                          refine c_region ?_
                                          refine l_step (y_moveV (et (gS rfl (gS rfl (gS rfl g0))) rfl)) ?_
                                          refine l_step (y_nil (et g0 rfl)) ?_
                                          refine l_step (y_fld fld_98_2 (et g0 rfl)) ?_
                                          refine l_step (y_load1 one_94 (et g0 rfl) (at1 (kS.cell (rS 2 _ rfl)))) ?_
                                          refine l_step (y_len Hvaa.underlying94 (et g0 rfl)) ?_
                                          refine l_eff (e_make Hvaa.underlying94 sz_232 zr_232 by_232 (et g0 rfl) (et g0 rfl) (by omega) (by omega)) (fun v285 w285 h285 => ?_)
                                          obtain ⟨b285, rfl, n285⟩ := h285
                                          have d2_285 : b2 < b285 := Nat.lt_of_lt_of_le k2.lt n285.fresh
                                          have d5_285 : b5 < b285 := Nat.lt_of_lt_of_le k5.lt n285.fresh
                                          have f285 : w.heap.size ≤ b285 := Nat.le_trans U.size n285.fresh
                                          have nb285 := hF.nb n285.fresh
                                          replace G := G.tr (Go.ofUp hF n285.up)
                                          replace hF := hF.up n285.up
                                          replace k2 := k2.up n285.up
                                          replace k5 := k5.up n285.up
                                          replace kS := kS.up n285.up
                                          replace kL := kL.up n285.up
                                          replace U := U.tr n285.up
                                          have k285 := n285.blk
                                          obtain ⟨rest0m, hr0m, k285⟩ := made_list k285
                                          refine l_step (y_fld fld_98_2 (et (gS rfl (gS rfl (gS rfl (gS rfl (gS rfl (gS rfl (gS rfl g0))))))) rfl)) ?_
                                          refine l_effN (e_store sz_94 (et g0 rfl) (cellsV (et (gS rfl g0) rfl) rfl) rfl (by first | exact one_bL _ | exact one_uL _ | (intro v hv; simp at hv; subst hv; rfl)) k5 (by first | exact Nat.le_of_ble_eq_true rfl | simp | omega)) (fun v286 w286 h286 => ?_)
                                          obtain ⟨rfl, x286⟩ := h286
                                          replace k2 := k2.ch x286.ch (by omega)
                                          replace k285 := k285.ch x286.ch (by omega)
                                          replace kS := kS.ch x286.ch (by first | omega | (omega))
                                          replace kL := kL.ch x286.ch (by first | omega | (intro q hq hm; have := dL q hq; omega))
                                          replace k5 := x286.blk
                                          replace G := G.wr x286 (by first | exact .inr f5 | omega | (simp; omega)) nb5
                                          replace hF := G.fz
                                          replace U := U.st x286 f5
                                          replace k5 : Blk w286 b5 [.slice none 0 0, .slice xa211 s.now.warmA.length xc211, .slice (some ⟨b285, 0, none⟩) s.now.warmS.length s.now.warmS.length, .slice ra1 ra2 ra3, .slice ya yn yn, .slice none 0 0, .slice xa214 s.now.made.length xc214, .slice xa217 s.now.gone.length xc217].toArray := k5
                                          refine l_nil ?_
                                          refine hK282 _ _ ?_
                                          refine fg3 0 2 3 (gS rfl (gS rfl (gS rfl (gS rfl (gS rfl (gS rfl (gS rfl (gS rfl (gS rfl (gS rfl g0)))))))))) (gS rfl (gS rfl (gS rfl (gS rfl (gS rfl (gS rfl (gS rfl (gS rfl (gS rfl g0))))))))) (gS rfl (gS rfl (gS rfl (gS rfl (gS rfl (gS rfl (gS rfl (gS rfl g0)))))))) (fun g => ?_)
                                          refine c_seq (fun K287 hK287 => ?_)
                                          refine c_seq (fun K288 hK288 => ?_)
                                          exact (by
                                            refine c_region ?_
                                            refine l_step (y_moveV (et (gS rfl (gS rfl g0)) rfl)) ?_
                                            refine l_step (y_nil (et g0 rfl)) ?_
                                            refine l_step (y_fld fld_98_2 (et g0 rfl)) ?_
                                            refine l_step (y_load1 one_94 (et g0 rfl) (at1 (kS.cell (rS 2 _ rfl)))) ?_
                                            refine l_step (y_len Hvaa.underlying94 (et g0 rfl)) ?_
                                            refine l_step y_moveC ?_
                                            refine l_nil ?_
                                            refine hK288 _ _ ?_
                                            refine fg5 2 3 161 162 163 (gS rfl (gS rfl (gS rfl (gS rfl (gS rfl (gS rfl (gS rfl g0))))))) (gS rfl (gS rfl (gS rfl (gS rfl (gS rfl (gS rfl g0)))))) (gS rfl (gS rfl g0)) (gS rfl g0) g0 (fun g => ?_)
                                            refine c_block (fun Q289 hQ289 => ?_)
                                            refine fg5 2 3 161 162 163 (gS rfl (gS rfl (gS rfl (gS rfl g0)))) (gS rfl (gS rfl (gS rfl g0))) (gS rfl (gS rfl g0)) (gS rfl g0) g0 (fun g => ?_)
                                            refine c_loop (fun k_ s_ W290 => ∃ (g : Nat → Value) (Hk290 : Store) (cs : List (List Value)) (rest : List Value) (i : Nat), s_ = (upd (upd (upd (upd (upd g 2 (.pointer (some ⟨b2, 0, none⟩))) 3 (.pointer (some ⟨b5, 0, none⟩))) 161 (.slice sa s.now.warmS.length sc)) 162 (.int .i64 (s.now.warmS.length : Nat))) 163 (.int .i64 (i : Nat))) ∧ s.now.warmS.length - i = k_ ∧ (i ≤ s.now.warmS.length) ∧ (cs.length = i) ∧ (rest.length = (s.now.warmS.length - i) * 21) ∧ (CP P_mark 21 Hk290 cs s.now.warmS) ∧ Blk W290 b285 ((cs.flatten ++ rest).toArray) ∧ Go (fun k => k = b285) w286 Hk278 W290 Hk290) (s.now.warmS.length - (0)) ?_ ?_
                                            · exact ⟨g, _, [], rest0m, 0, rfl, rfl, Nat.zero_le _, rfl, by rw [hr0m, Nat.sub_zero], CP.nil _ _ _ _, k285, Go.refl hF⟩
                                            · skip
                                              intro k_ s_ W290 hI K290 hK290
                                              obtain ⟨g, Hk290, cs, rest, i, rfl, rfl, hi, hcl, hrl, hcp, nk285, V290⟩ := hI
                                              have hle290 := V290.le
                                              replace nb2 := V290.nb nb2 k2.lt
                                              replace nb5 := V290.nb nb5 k5.lt
                                              replace nb285 := V290.nb nb285 k285.lt
                                              replace hvr9 := hvr9.mono hle290
                                              replace hvl9 := hvl9.mono hle290
                                              replace lv211 := lv211.mono hle290
                                              replace lv214 := lv214.mono hle290
                                              replace lv217 := lv217.mono hle290
                                              replace hL0 := hL0.trans hle290
                                              replace G := G.trans V290 (by intro b hb; first | exact hb.elim | omega | (simp at hb ⊢; omega))
                                              replace hF := V290.fz
                                              replace k2 := k2.ch V290.ch (by omega)
                                              replace k5 := k5.ch V290.ch (by omega)
                                              replace kS := kS.ch V290.ch (by omega)
                                              replace kL := kL.ch V290.ch (by intro q hq hm; have := dL q hq; omega)
                                              replace k285 := nk285
                                              replace U := U.cc V290.ch (by intro b hb; first | exact hb.elim | omega | (simp at hb ⊢; omega))
                                              refine c_seq (fun K291 hK291 => ?_)
                                              exact (by
                                                refine c_region ?_
                                                refine l_step (y_lss (et g0 rfl) (et (gS rfl g0) rfl)) ?_
                                                refine l_nil ?_
                                                refine hK291 _ _ ?_
                                                refine c_seq (fun K292 hK292 => ?_)
                                                refine c_cond (et g0 rfl) (fun cB8 => ?_) (fun cB8 => ?_)
                                                · skip
                                                  
                                                  have hil : i < s.now.warmS.length := by have := of_decide_eq_true cB8; omega
                                                  refine c_skip ?_
                                                  refine hK292 _ _ ?_
                                                  refine fg5 2 3 161 162 163 (gS rfl (gS rfl (gS rfl (gS rfl (gS rfl g0))))) (gS rfl (gS rfl (gS rfl (gS rfl g0)))) (gS rfl (gS rfl (gS rfl g0))) (gS rfl (gS rfl g0)) (gS rfl g0) (fun g => ?_)
                                                  refine c_seq (fun K294 hK294 => ?_)
                                                  refine c_block (fun Q295 hQ295 => ?_)
                                                  refine c_seq (fun K296 hK296 => ?_)
                                                  exact (by
                                                    refine c_region ?_
                                                    refine l_step (y_moveV (et g0 rfl)) ?_
                                                    have hF0 := hF.of hL0
                                                    obtain ⟨bq, oq, r, ha0, hrow, hrr, vk, hr1, hvk, hma, hmk⟩ := hWS.row hF0 (i := i) hil
                                                    rw [hr1] at hrow hrr
                                                    obtain ⟨ka1, ka2, ka3, rfl⟩ := hvk.sl
                                                    refine l_step (y_idxSa ha0 Hvaa.underlying94 sz_232 (et (gS rfl (gS rfl (gS rfl g0))) rfl) (et (gS rfl g0) rfl) ?_) ?_
                                                    omega
                                                    refine l_step (y_loadR agg_232 sz_232 (et g0 rfl) len21 (at1R hrow)) ?_
                                                    refine l_eff (e_alloc zr_232) (fun v297 w297 h297 => ?_)
                                                    obtain ⟨b297, rfl, n297⟩ := h297
                                                    have d2_297 : b2 < b297 := Nat.lt_of_lt_of_le k2.lt n297.fresh
                                                    have d5_297 : b5 < b297 := Nat.lt_of_lt_of_le k5.lt n297.fresh
                                                    have d285_297 : b285 < b297 := Nat.lt_of_lt_of_le k285.lt n297.fresh
                                                    have f297 : w.heap.size ≤ b297 := Nat.le_trans U.size n297.fresh
                                                    have nb297 := hF.nb n297.fresh
                                                    have fV290_297 := Nat.le_trans V290.ch.size n297.fresh
                                                    replace G := G.tr (Go.ofUp hF n297.up)
                                                    replace V290 := V290.tr (Go.ofUp hF n297.up)
                                                    replace hF := hF.up n297.up
                                                    replace k2 := k2.up n297.up
                                                    replace k5 := k5.up n297.up
                                                    replace k285 := k285.up n297.up
                                                    replace kS := kS.up n297.up
                                                    replace kL := kL.up n297.up
                                                    replace U := U.tr n297.up
                                                    have k297 := n297.blk
                                                    refine l_step (y_assignV (et (gS rfl (gS rfl (gS rfl g0))) rfl)) ?_
                                                    refine l_effN (e_store sz_232 (et (gS rfl g0) rfl) (cellsV (et (gS rfl (gS rfl g0)) rfl) rfl) len21 (by exact one_app (one_one rfl)) k297 (by exact Nat.le_of_ble_eq_true rfl)) (fun v298 w298 h298 => ?_)
                                                    obtain ⟨rfl, x298⟩ := h298
                                                    replace k2 := k2.ch x298.ch (by omega)
                                                    replace k5 := k5.ch x298.ch (by omega)
                                                    replace k285 := k285.ch x298.ch (by omega)
                                                    replace kS := kS.ch x298.ch (by first | omega | (omega))
                                                    replace kL := kL.ch x298.ch (by first | omega | (intro q hq hm; have := dL q hq; omega))
                                                    replace k297 := x298.blk.full (by rw [len21]; rfl)
                                                    replace G := G.wr x298 (by first | exact .inr f297 | omega | (simp; omega)) nb297
                                                    replace V290 := V290.wr x298 (by first | exact .inr f297 | omega | (simp; omega)) nb297
                                                    replace hF := G.fz
                                                    replace U := U.st x298 f297
                                                    refine l_nil ?_
                                                    refine hK296 _ _ ?_
                                                    refine fg7 2 3 161 162 163 12 11 (gS rfl (gS rfl (gS rfl (gS rfl (gS rfl (gS rfl (gS rfl (gS rfl (gS rfl g0))))))))) (gS rfl (gS rfl (gS rfl (gS rfl (gS rfl (gS rfl (gS rfl (gS rfl g0)))))))) (gS rfl (gS rfl (gS rfl (gS rfl (gS rfl (gS rfl (gS rfl g0))))))) (gS rfl (gS rfl (gS rfl (gS rfl (gS rfl (gS rfl g0)))))) (gS rfl (gS rfl (gS rfl (gS rfl (gS rfl g0))))) (gS rfl g0) g0 (fun g => ?_)
                                                    refine c_draw Up 10 [(0, true), (1, true), (2, true), (3, true), (4, true), (5, true), (6, true), (7, false), (8, true), (9, true), (10, false)] (by kernel_rfl) (fun w299 hu => ⟨Up.refl _, ?_⟩)
                                                    replace G := G.tr (Go.ofUp hF hu)
                                                    replace V290 := V290.tr (Go.ofUp hF hu)
                                                    replace hF := hF.up hu
                                                    replace k2 := k2.up hu
                                                    replace k5 := k5.up hu
                                                    replace k285 := k285.up hu
                                                    replace k297 := k297.up hu
                                                    replace kS := kS.up hu
                                                    replace kL := kL.up hu
                                                    replace U := U.tr hu
                                                    have SU := Up.refl w299
                                                    exact (by
                                                      refine p_step (by exact rfl) (y_fld fld_98_2 (et (gS rfl (gS rfl (gS rfl (gS rfl (gS rfl g0))))) rfl)) ?_
                                                      refine p_step (by exact rfl) (y_load1 one_94 (et g0 rfl) (atS (k5.cell rfl))) ?_
                                                      refine p_step (by exact rfl) (y_moveV (et (gS rfl (gS rfl g0)) rfl)) ?_
                                                      refine p_step (by exact rfl) (y_fld fld_232_0 (et (gS rfl (gS rfl (gS rfl (gS rfl g0)))) rfl)) ?_
                                                      refine p_step (by exact rfl) (y_loadR agg_25 sz_25 (et g0 rfl) (by rw [length_bL, length_be]) (atSR (k297.row addr_row))) ?_
                                                      refine p_step (by exact rfl) (y_fld fld_232_1 (et (gS rfl (gS rfl (gS rfl (gS rfl (gS rfl (gS rfl g0)))))) rfl)) ?_
                                                      refine p_step (by exact rfl) (y_load1 one_95 (et g0 rfl) (atS (k297.cell ((app20 (i := 0) rfl).trans rfl)))) ?_
                                                      refine p_eff (by exact rfl) (e_callV cal_217 (aC (et g0 rfl) aN) (yp_natOf hF (hvk.mono hL0) (bd_up (bd_W hmk) (by decide)))) (fun v300 w300 h300 => ?_)
                                                      obtain ⟨H300, g300, n300⟩ := h300
                                                      have hlew300 := g300.le
                                                      replace nb2 := g300.nb nb2 k2.lt
                                                      replace nb5 := g300.nb nb5 k5.lt
                                                      replace nb285 := g300.nb nb285 k285.lt
                                                      replace nb297 := g300.nb nb297 k297.lt
                                                      replace hvr9 := hvr9.mono hlew300
                                                      replace hvl9 := hvl9.mono hlew300
                                                      replace lv211 := lv211.mono hlew300
                                                      replace lv214 := lv214.mono hlew300
                                                      replace lv217 := lv217.mono hlew300
                                                      replace hcp := hcp.mono hlew300
                                                      replace hL0 := hL0.trans hlew300
                                                      replace k2 := k2.up g300.up
                                                      replace k5 := k5.up g300.up
                                                      replace k285 := k285.up g300.up
                                                      replace k297 := k297.up g300.up
                                                      replace kS := kS.up g300.up
                                                      replace kL := kL.up g300.up
                                                      replace U := U.tr g300.up
                                                      replace G := G.tr g300
                                                      replace V290 := V290.tr g300
                                                      replace hF := g300.fz
                                                      obtain ⟨na300, nn300, nc300, rfl⟩ := n300.sl
                                                      refine ⟨.inr (SU.tr g300.up), ?_⟩
                                                      replace SU := SU.tr g300.up
                                                      exact (by
                                                        have hb301 : ∀ w, (Instr.build 232 ([(0, (Value.agg (bL (be 20 s.now.warmS[i].1)).toArray)), (1, (.slice na300 nn300 nc300))] : List (Nat × Value)).toArray).run Hvaa.prog w = .ok (.agg ([(bL (be 20 s.now.warmS[i].1)), ([(.slice na300 nn300 nc300)])] : List (List Value)).flatten.toArray) w := bld_run zr_232 plc_232 (fill_flat (off := 0) (k := 20) (f := (List.replicate 20 (.int .u8 0))) (c := bL (be 20 s.now.warmS[i].1)) (v := (Value.agg (bL (be 20 s.now.warmS[i].1)).toArray)) rfl rfl (by first | (simp [length_bL, length_be, length_uL]; done) | rfl) (by first | rfl | (simp [length_bL, length_be, length_uL]; done)) rfl (by first | (simp [length_bL, length_be, length_uL]; done) | rfl) (fill_flat (off := 20) (k := 1) (f := [.slice none 0 0]) (c := [(.slice na300 nn300 nc300)]) (v := (.slice na300 nn300 nc300)) rfl rfl (by first | (simp [length_bL, length_be, length_uL]; done) | rfl) (by first | (simp [length_bL, length_be, length_uL]; done) | rfl) rfl (by first | (simp [length_bL, length_be, length_uL]; done) | rfl) (fill_nil _ _)))
                                                        refine p_step (by exact rfl) ((y_bld (bC (et (gS rfl (gS rfl (gS rfl g0))) rfl) (bC (et g0 rfl) bN)) hb301).to (congrArg (fun l : List Value => Value.agg l.toArray) (show _ = bL (be 20 s.now.warmS[i].1) ++ [(.slice na300 nn300 nc300)] by simp))) ?_
                                                        have hfl : cs.flatten.length = i * 21 := by rw [hcp.len (by omega), hcl]
                                                        have hkr : 21 ≤ rest.length := by rw [hrl]; omega
                                                        refine p_step (by exact rfl) (y_idxSa rfl Hvaa.underlying94 sz_232 (et (gS rfl (gS rfl (gS rfl (gS rfl (gS rfl (gS rfl (gS rfl g0))))))) rfl) (et (gS rfl (gS rfl (gS rfl (gS rfl (gS rfl (gS rfl g0)))))) rfl) ?_) ?_
                                                        omega
                                                        refine p_effN (by exact rfl) (e_store sz_232 (et g0 rfl) (cellsV (et (gS rfl g0) rfl) rfl) len21 (by exact one_app (one_one rfl)) k285 (by (rw [List.size_toArray, List.length_append, hfl, hrl]; omega))) (fun v302 w302 h302 => ?_)
                                                        obtain ⟨rfl, x302⟩ := h302
                                                        replace k2 := k2.ch x302.ch (by omega)
                                                        replace k5 := k5.ch x302.ch (by omega)
                                                        replace k297 := k297.ch x302.ch (by omega)
                                                        replace kS := kS.ch x302.ch (by first | omega | (omega))
                                                        replace kL := kL.ch x302.ch (by first | omega | (intro q hq hm; have := dL q hq; omega))
                                                        replace k285 := x302.blk
                                                        replace G := G.wr x302 (by first | exact .inr f285 | omega | (simp; omega)) nb285
                                                        replace V290 := V290.wr x302 (by first | exact .inr f285 | omega | (simp; omega)) nb285
                                                        replace hF := G.fz
                                                        replace U := U.st x302 f285
                                                        refine ⟨.inl rfl, ?_⟩
                                                        rw [fill_rec hfl len21 hkr] at k285
                                                        refine p_nil ?_
                                                        refine hQ295 _ _ _ (in_normal ?_)
                                                        refine hK294 _ _ ?_
                                                        refine fg5 2 3 161 162 163 (gS rfl (gS rfl (gS rfl (gS rfl (gS rfl (gS rfl (gS rfl (gS rfl (gS rfl (gS rfl (gS rfl (gS rfl (gS rfl (gS rfl (gS rfl (gS rfl g0)))))))))))))))) (gS rfl (gS rfl (gS rfl (gS rfl (gS rfl (gS rfl (gS rfl (gS rfl (gS rfl (gS rfl (gS rfl (gS rfl (gS rfl (gS rfl (gS rfl g0))))))))))))))) (gS rfl (gS rfl (gS rfl (gS rfl (gS rfl (gS rfl (gS rfl (gS rfl (gS rfl (gS rfl (gS rfl (gS rfl (gS rfl (gS rfl g0)))))))))))))) (gS rfl (gS rfl (gS rfl (gS rfl (gS rfl (gS rfl (gS rfl (gS rfl (gS rfl (gS rfl (gS rfl (gS rfl (gS rfl g0))))))))))))) (gS rfl (gS rfl (gS rfl (gS rfl (gS rfl (gS rfl (gS rfl (gS rfl (gS rfl (gS rfl (gS rfl (gS rfl g0)))))))))))) (fun g => ?_)
                                                        refine c_region ?_
                                                        refine l_step (y_add (et g0 rfl) rfl (addIN (y := 1) ?_)) ?_
                                                        omega
                                                        refine l_step (y_moveV (et g0 rfl)) ?_
                                                        refine l_nil ?_
                                                        refine fK5 2 3 161 162 163 (gS rfl (gS rfl (gS rfl (gS rfl (gS rfl (gS rfl g0)))))) (gS rfl (gS rfl (gS rfl (gS rfl (gS rfl g0))))) (gS rfl (gS rfl (gS rfl (gS rfl g0)))) (gS rfl (gS rfl (gS rfl g0))) g0 (fun g => ?_)
                                                        exact hK290 (s.now.warmS.length - ((i + 1))) _ _ (by omega) ⟨g, _, _, _, (i + 1), rfl, rfl, by omega, by rw [List.length_append, hcl]; rfl, by rw [List.length_drop, hrl]; omega, hcp.snoc hcl hil len21 ⟨_, rfl, n300, hma, hmk⟩, k285, V290⟩)))
                                                · skip
                                                  
                                                  have hil : i = s.now.warmS.length := by have := of_decide_eq_false cB8; omega
                                                  obtain rfl : rest = [] := List.length_eq_zero_iff.1 (by rw [hrl, hil]; omega)
                                                  rw [List.append_nil] at k285
                                                  obtain ⟨Hz303, Gz303, hlz303, hez303, hnz303⟩ := G.hold' k285 f285
                                                  replace G := Gz303
                                                  replace hF := G.fz
                                                  replace hvr9 := hvr9.mono hlz303
                                                  replace hvl9 := hvl9.mono hlz303
                                                  replace lv211 := lv211.mono hlz303
                                                  replace lv214 := lv214.mono hlz303
                                                  replace lv217 := lv217.mono hlz303
                                                  replace hcp := hcp.mono hlz303
                                                  replace hL0 := hL0.trans hlz303
                                                  replace nb2 := fun hh => (hnz303 _ hh).elim nb2 (by omega)
                                                  replace nb5 := fun hh => (hnz303 _ hh).elim nb5 (by omega)
                                                  have lvFB8 : LV P_mark 21 Hz303 (.slice (some ⟨b285, 0, none⟩) s.now.warmS.length s.now.warmS.length) s.now.warmS := LV.ofNew hez303 (Le.refl _) (by first | with_reducible exact mono_slot | with_reducible exact mono_acct | with_reducible exact mono_tri | with_reducible exact mono_mark) rfl (by omega) (by omega) hcp.get
                                                  refine c_exit ?_
                                                  refine hQ289 _ _ _ (in_exit ?_)
                                                  refine hK287 _ _ ?_
                                                  refine fg2 2 3 (gS rfl (gS rfl (gS rfl (gS rfl (gS rfl g0))))) (gS rfl (gS rfl (gS rfl (gS rfl g0)))) (fun g => ?_)
                                                  refine c_seq (fun K304 hK304 => ?_)
                                                  exact (by
                                                    refine c_region ?_
                                                    refine l_step (y_loadB agg_98 sz_98 (et g0 rfl) rfl (at1B k5)) ?_
                                                    refine l_effN (e_store sz_98 (et (gS rfl (gS rfl g0)) rfl) (cellsV (et g0 rfl) rfl) rfl (by intro v hv; simp only [List.mem_cons, List.not_mem_nil, or_false] at hv; rcases hv with rfl | rfl | rfl | rfl | rfl | rfl | rfl | rfl <;> rfl) k2 (by exact Nat.le_of_ble_eq_true rfl)) (fun v305 w305 h305 => ?_)
                                                    obtain ⟨rfl, x305⟩ := h305
                                                    replace k5 := k5.ch x305.ch (by omega)
                                                    replace kS := kS.ch x305.ch (by first | omega | (omega))
                                                    replace kL := kL.ch x305.ch (by first | omega | (intro q hq hm; have := dL q hq; omega))
                                                    replace k2 := x305.blk.full rfl
                                                    replace G := G.wr x305 (by first | exact .inr f2 | omega | (simp; omega)) nb2
                                                    replace hF := G.fz
                                                    replace U := U.st x305 f2
                                                    refine l_nil ?_
                                                    refine hK304 _ _ ?_
                                                    refine fg1 2 (gS rfl (gS rfl g0)) (fun g => ?_)
                                                    refine c_ret ?_
                                                    repeat with_reducible refine then_ret ?_
                                                    refine ret1 rfl (res_blk agg_98 sz_98 (et g0 rfl) (by first | (simp only [Value.cells, hV, aV, bV, wV, wL, List.size_toArray, length_bL, length_uL, length_be, size_spl, List.length_cons, List.length_nil, List.length_replicate, Nat.zero_add, Nat.reduceAdd, Nat.reduceLeDiff, Nat.le_refl]; done) | rfl) k2) ?_
                                                    exact ⟨_, _, rfl, G, ⟨_, _, _, _, _, _, _, _, rfl, (by rw [List.length_eq_zero_iff.1 hzB1]; exact LV.nil _ _ _), lv211, lvFB8, hvr9, so.refund, hvl9, (by rw [List.length_eq_zero_iff.1 hzB5]; exact LV.nil _ _ _), lv214, lv217, _, _, rfl⟩⟩))))
                                      · skip
                                        
                                        have hzB7 : s.now.warmS.length = 0 := by
                                          cases h9 : sa with
                                          | none => exact nil_len (h9 ▸ hWS)
                                          | some x => rw [h9] at cB7; cases cB7
                                        refine c_skip ?_
                                        refine hK282 _ _ ?_
                                        refine fg3 0 2 3 (gS rfl (gS rfl (gS rfl g0))) (gS rfl (gS rfl g0)) (gS rfl g0) (fun g => ?_)
                                        refine c_seq (fun K306 hK306 => ?_)
                                        refine c_seq (fun K307 hK307 => ?_)
                                        exact (by
                                          refine c_region ?_
                                          refine l_step (y_moveV (et (gS rfl (gS rfl g0)) rfl)) ?_
                                          refine l_step (y_nil (et g0 rfl)) ?_
                                          refine l_step (y_fld fld_98_2 (et g0 rfl)) ?_
                                          refine l_step (y_load1 one_94 (et g0 rfl) (at1 (kS.cell (rS 2 _ rfl)))) ?_
                                          refine l_step (y_len Hvaa.underlying94 (et g0 rfl)) ?_
                                          refine l_step y_moveC ?_
                                          refine l_nil ?_
                                          refine hK307 _ _ ?_
                                          refine fg5 2 3 161 162 163 (gS rfl (gS rfl (gS rfl (gS rfl (gS rfl (gS rfl (gS rfl g0))))))) (gS rfl (gS rfl (gS rfl (gS rfl (gS rfl (gS rfl g0)))))) (gS rfl (gS rfl g0)) (gS rfl g0) g0 (fun g => ?_)
                                          refine c_block (fun Q308 hQ308 => ?_)
                                          refine fg5 2 3 161 162 163 (gS rfl (gS rfl (gS rfl (gS rfl g0)))) (gS rfl (gS rfl (gS rfl g0))) (gS rfl (gS rfl g0)) (gS rfl g0) g0 (fun g => ?_)
                                          refine c_loop (fun k_ s_ W309 => ∃ (g : Nat → Value) (Hk309 : Store) (i : Nat), s_ = (upd (upd (upd (upd (upd g 2 (.pointer (some ⟨b2, 0, none⟩))) 3 (.pointer (some ⟨b5, 0, none⟩))) 161 (.slice sa s.now.warmS.length sc)) 162 (.int .i64 (s.now.warmS.length : Nat))) 163 (.int .i64 (i : Nat))) ∧ s.now.warmS.length - i = k_ ∧ (i ≤ s.now.warmS.length) ∧ Go (fun k => False) W278 Hk278 W309 Hk309) (s.now.warmS.length - (0)) ?_ ?_
                                          · exact ⟨g, _, 0, rfl, rfl, Nat.zero_le _, Go.refl hF⟩
                                          · skip
                                            intro k_ s_ W309 hI K309 hK309
                                            obtain ⟨g, Hk309, i, rfl, rfl, hi, V309⟩ := hI
                                            have hle309 := V309.le
                                            replace nb2 := V309.nb nb2 k2.lt
                                            replace nb5 := V309.nb nb5 k5.lt
                                            replace hvr9 := hvr9.mono hle309
                                            replace hvl9 := hvl9.mono hle309
                                            replace lv211 := lv211.mono hle309
                                            replace lv214 := lv214.mono hle309
                                            replace lv217 := lv217.mono hle309
                                            replace hL0 := hL0.trans hle309
                                            replace G := G.trans V309 (by intro b hb; first | exact hb.elim | omega | (simp at hb ⊢; omega))
                                            replace hF := V309.fz
                                            replace k2 := k2.ch V309.ch (by exact fun h => h)
                                            replace k5 := k5.ch V309.ch (by exact fun h => h)
                                            replace kS := kS.ch V309.ch (by first | exact fun h => h | exact fun _ h => h.elim | exact fun _ _ h => h)
                                            replace kL := kL.ch V309.ch (by first | exact fun h => h | exact fun _ h => h.elim | exact fun _ _ h => h)
                                            replace U := U.cc V309.ch (by intro b hb; first | exact hb.elim | omega | (simp at hb ⊢; omega))
                                            refine c_seq (fun K310 hK310 => ?_)
                                            exact (by
                                              refine c_region ?_
                                              refine l_step (y_lss (et g0 rfl) (et (gS rfl g0) rfl)) ?_
                                              refine l_nil ?_
                                              refine hK310 _ _ ?_
                                              refine c_seq (fun K311 hK311 => ?_)
                                              refine c_cond (et g0 rfl) (fun cB8 => ?_) (fun cB8 => ?_)
                                              · skip
                                                
                                                have := of_decide_eq_true cB8; omega
                                              · skip
                                                
                                                refine c_exit ?_
                                                refine hQ308 _ _ _ (in_exit ?_)
                                                refine hK306 _ _ ?_
                                                refine fg2 2 3 (gS rfl (gS rfl (gS rfl (gS rfl (gS rfl g0))))) (gS rfl (gS rfl (gS rfl (gS rfl g0)))) (fun g => ?_)
                                                refine c_seq (fun K313 hK313 => ?_)
                                                exact (by
                                                  refine c_region ?_
                                                  refine l_step (y_loadB agg_98 sz_98 (et g0 rfl) rfl (at1B k5)) ?_
                                                  refine l_effN (e_store sz_98 (et (gS rfl (gS rfl g0)) rfl) (cellsV (et g0 rfl) rfl) rfl (by intro v hv; simp only [List.mem_cons, List.not_mem_nil, or_false] at hv; rcases hv with rfl | rfl | rfl | rfl | rfl | rfl | rfl | rfl <;> rfl) k2 (by exact Nat.le_of_ble_eq_true rfl)) (fun v314 w314 h314 => ?_)
                                                  obtain ⟨rfl, x314⟩ := h314
                                                  replace k5 := k5.ch x314.ch (by omega)
                                                  replace kS := kS.ch x314.ch (by first | omega | (omega))
                                                  replace kL := kL.ch x314.ch (by first | omega | (intro q hq hm; have := dL q hq; omega))
                                                  replace k2 := x314.blk.full rfl
                                                  replace G := G.wr x314 (by first | exact .inr f2 | omega | (simp; omega)) nb2
                                                  replace hF := G.fz
                                                  replace U := U.st x314 f2
                                                  refine l_nil ?_
                                                  refine hK313 _ _ ?_
                                                  refine fg1 2 (gS rfl (gS rfl g0)) (fun g => ?_)
                                                  refine c_ret ?_
                                                  repeat with_reducible refine then_ret ?_
                                                  refine ret1 rfl (res_blk agg_98 sz_98 (et g0 rfl) (by first | (simp only [Value.cells, hV, aV, bV, wV, wL, List.size_toArray, length_bL, length_uL, length_be, size_spl, List.length_cons, List.length_nil, List.length_replicate, Nat.zero_add, Nat.reduceAdd, Nat.reduceLeDiff, Nat.le_refl]; done) | rfl) k2) ?_
                                                  exact ⟨_, _, rfl, G, ⟨_, _, _, _, _, _, _, _, rfl, (by rw [List.length_eq_zero_iff.1 hzB1]; exact LV.nil _ _ _), lv211, (by rw [List.length_eq_zero_iff.1 hzB7]; exact LV.nil _ _ _), hvr9, so.refund, hvl9, (by rw [List.length_eq_zero_iff.1 hzB5]; exact LV.nil _ _ _), lv214, lv217, _, _, rfl⟩⟩)))))))))))))))
end Go.Proofs.YgvaawGreat
