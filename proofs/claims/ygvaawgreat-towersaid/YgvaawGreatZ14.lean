import Derived.Test.YgvaawGreatZ13
import Derived.Test.YgvaawGreatKP
import Derived.Test.YgvaawGreatY45
set_option maxRecDepth 100000
set_option maxHeartbeats 4000000
set_option linter.unusedSimpArgs false
set_option linter.unusedVariables false
namespace Go.Proofs.YgvaawGreat
open Go
theorem lay_wr {m l : List Nat} {x : Nat} (h : x + l.length ≤ m.length) (h0 : 0 < l.length) : lay m x l = wrN m x l := by
  unfold lay wrN
  rw [if_pos (by omega), List.take_of_length_le (by omega : l.length ≤ m.length - x)]
theorem cut_in {m : List Nat} {x y : Nat} (h : x + y ≤ m.length) : (m.drop x).take y = cutN m x y := by
  unfold cutN
  rw [show y - (m.length - x) = 0 by omega]
  simp
theorem of8 {w : World} {H : Store} {col : Nat → Nat} {bc : Nat} {cs : Array Value} {V : EV} (h : VLm 8 w H col bc cs V) : VL w H col bc cs V :=
  ⟨h.fz, h.kC, h.size, h.colC, h.new, h.kept, h.acc (by decide), h.slo (by decide), h.jou (by decide), h.log (by decide), h.tem (by decide), h.ttb (by decide), h.atb, h.stb, h.mrk, h.nmk, h.ref, h.tb⟩
section
variable {w0 w w' : World} {H0 H H' : Store} {col0 col col' : Nat → Nat} {bc : Nat} {cs cs' : Array Value} {V V' : EV} {s : YSt} {sn : List Nat} {sv : List AW} {ms ms' : List (List Nat)} {c c' : Nat} {low : List YF} {f : YF} {lo : List (List Nat)} {m : List Nat}
/-- the memory's bytes turned in place -/
theorem XT.mem {M : Nat → Prop} (h : XT w0 H0 col0 w H col bc cs V s sn sv ms c) (u : Ch M w w') (hM : ∀ b, M b → col b = 8) (hm : ∃ bm cm n, MA w' col cs ms' bm cm n) : XT w0 H0 col0 w' H col bc cs V s sn sv ms' c := by
  have hv := of8 (h.ex.vl.tr u hM (by decide) (by decide))
  refine ⟨⟨hv, h.ex.ok, h.ex.lx, hm, h.ex.px⟩, ⟨h.et.go.ch.cc u (fun b hb => ?_), hv.fz, h.et.go.le, h.et.go.new⟩, h.et.col⟩
  by_cases hlt : b < w0.heap.size
  · left
    rw [← h.et.col b hlt, hM b hb]
    decide
  · exact .inr (by omega)
theorem MA.own8 {bm : Nat} {cm : Array Value} {n : Nat} (hM : MA w col cs (lo ++ [m]) bm cm n) (h0 : 0 < m.length) : col bm = 8 := by
  obtain ⟨v, h1, h2, h3⟩ := hM.bf
  have hn : 0 < n := by
    have := hM.le
    rw [List.flatten_append, List.length_append] at this
    simp at this
    omega
  rcases h2.at' with ⟨_, e⟩ | ⟨cap, e, _⟩
  · omega
  · exact h3 (by rw [e]; rfl)
theorem EX.mLd32 (hE : EX w H col bc cs V s sn sv ms c) (hms : ms = lo ++ [m]) (off : Nat) (hok : off + 32 ≤ m.length) : Ret 301 [.pointer (some ⟨bc, 1, none⟩), .int .u32 (off : Nat)] w (fun v w' => v = .tuple #[bV (cutN m off 32), .bool true] ∧ Up w w') := by
  obtain ⟨bm, cm, n, hM⟩ := hE.mx
  subst hms
  rw [← cut_in hok]
  exact g_load32 hE.vl.kC hM hE.vl.colC off hok
theorem EX.mSt32 (hE : EX w H col bc cs V s sn sv ms c) (hms : ms = lo ++ [m]) (off : Nat) (hok : off + 32 ≤ m.length) (x : Nat) : Ret 302 [.pointer (some ⟨bc, 1, none⟩), .int .u32 (off : Nat), hV x] w (fun v w' => v = .bool true ∧ (∃ bm cm n, MA w' col cs (lo ++ [wrN m off (be 32 x)]) bm cm n) ∧ Ch (fun b => col b = 8) w w') := by
  obtain ⟨bm, cm, n, hM⟩ := hE.mx
  subst hms
  have h8 := hM.own8 (by omega)
  refine (g_store32 hE.vl.kC hM hE.vl.colC off hok (be 32 x) (length_be _ _) (be_lt 32 x)).mono fun v w' h => ?_
  obtain ⟨e, cm', h1, h2⟩ := h
  rw [lay_wr (by rw [length_be]; exact hok) (by rw [length_be]; decide)] at h1
  exact ⟨e, ⟨_, _, _, h1⟩, h2.mono (fun b _ hb => by rw [hb]; exact h8)⟩
theorem EX.mSt8 (hE : EX w H col bc cs V s sn sv ms c) (hms : ms = lo ++ [m]) (off y : Nat) (hok : off + 1 ≤ m.length) (hy : y < 256) : Ret 303 [.pointer (some ⟨bc, 1, none⟩), .int .u32 (off : Nat), .int .u8 (y : Nat)] w (fun v w' => v = .bool true ∧ (∃ bm cm n, MA w' col cs (lo ++ [wrN m off [y]]) bm cm n) ∧ Ch (fun b => col b = 8) w w') := by
  obtain ⟨bm, cm, n, hM⟩ := hE.mx
  subst hms
  have h8 := hM.own8 (by omega)
  refine (g_store8 hE.vl.kC hM hE.vl.colC off y hok (fun z hz => by simp at hz; omega)).mono fun v w' h => ?_
  obtain ⟨e, cm', h1, h2⟩ := h
  rw [lay_wr (l := [y]) (by simpa using hok) (by simp)] at h1
  exact ⟨e, ⟨_, _, _, h1⟩, h2.mono (fun b _ hb => by rw [hb]; exact h8)⟩
theorem m_kec {a : Option Addr} {l : List Nat} (hF : Fz w H) (hB : BV H (.slice a l.length c) l) : Ret 166 [.slice a l.length c] w (fun v w' => v = hV (kecN l) ∧ Up w w') := by
  have h := kec_Sum (hB.wv hF) (Nat.le_refl _)
  rw [ks_kec hB.dig] at h
  exact h
end
def jmpF (f : YF) (q : Nat) : YF := if q = 91 then setF f 0 false 0 1 else if q = 87 ∧ argN f.stack 1 = 0 then setF f 2 false 0 1 else { setF f (if q = 86 then 1 else 2) false 0 0 with pc := argN f.stack 0 }
theorem m_opJump {w : World} {H : Store} {col : Nat → Nat} {bc : Nat} {cs : Array Value} {V : EV} {s : YSt} {sn : List Nat} {sv : List AW} {ms : List (List Nat)} {c : Nat} {low : List YF} {f : YF} (hE : EX w H col bc cs V s sn sv ms c) (hs : s.frames = low ++ [f]) (hp : s.phase = 1) {q : Nat} (hq : opcN f = q) (hpc9 : f.pc < 512) (hqq : q = 86 ∨ q = 87 ∨ q = 91) (htk9 : (if q = 86 then 1 else if q = 87 then 2 else 0) ≤ f.stack.length) (hgo : q = 86 ∨ (q = 87 ∧ argN f.stack 1 ≠ 0) → argN f.stack 0 < 512) :
    Ret 199 [.pointer (some ⟨bc, 0, none⟩)] w (fun v w' => v = .tuple #[] ∧ ∃ cs', XT w H col w' H col bc cs' V { s with frames := low ++ [jmpF f q] } sn sv ms c) := by
  obtain ⟨n9, hn9, hR⟩ := hE.topF hs
  have hB := hE.fbT hs
  have h6 := hE.six hs
  have htop := hE.cTop hs
  have hphs := hE.cPh hp
  have hbp := hB.pc
  have hbs := hB.stk
  have hbg := hB.gas
  have hbc9 := hB.code
  have hnw := hE.vl.new
  have hfz := hE.vl.fz
  have hcC := hE.vl.colC
  have hbc0 := hE.vl.kC.lt
  have hX := XT.refl hE
  refine enter (n := 55) Hvaa.func199 rfl rfl (Nat.le_of_ble_eq_true rfl) ?_
  have U : Ch (fun _ => True) w w := Ch.refl _ w
  refine c_seq (fun K1 hK1 => ?_)
  exact (by
    refine c_region ?_
    refine l_step (y_moveV (et g0 rfl)) ?_
    refine l_eff (e_callV cal_183 (aC (et g0 rfl) aN) (m_running hX.ex hs hp)) (fun v2 w2 h2 => ?_)
    obtain ⟨rfl, u2⟩ := h2
    replace hX := hX.up u2
    replace U := U.tr u2
    refine l_step (y_assignV (et g0 rfl)) ?_
    refine l_nil ?_
    refine hK1 _ _ ?_
    refine fg2 0 2 (gS rfl (gS rfl (gS rfl g0))) g0 (fun g => ?_)
    refine c_seq (fun K3 hK3 => ?_)
    refine c_seq (fun K4 hK4 => ?_)
    exact (by
      refine c_region ?_
      refine l_step (y_moveV (et g0 rfl)) ?_
      refine l_step (y_eqlNil Hvaa.underlying276 (et g0 rfl) rfl) ?_
      refine l_nil ?_
      refine hK4 _ _ ?_
      refine fg3 0 2 11 (gS rfl (gS rfl (gS rfl g0))) (gS rfl (gS rfl g0)) g0 (fun g => ?_)
      refine c_false (et g0 rfl) rfl ?_
      refine c_skip ?_
      refine hK3 _ _ ?_
      refine fg2 0 2 (gS rfl (gS rfl g0)) (gS rfl g0) (fun g => ?_)
      refine c_seq (fun K6 hK6 => ?_)
      exact (by
        refine c_region ?_
        refine l_step (y_moveV (et (gS rfl g0) rfl)) ?_
        refine l_step (y_moveV (et (gS rfl g0) rfl)) ?_
        refine l_eff (e_callV cal_264 (aC (et (gS rfl g0) rfl) (aC (et g0 rfl) (aC (v := .int .i64 ((0 : Nat) : Int)) rfl aN))) (m_arg hX.ex hs hp (by first | exact hpf | rfl) _ (by decide))) (fun v7 w7 h7 => ?_)
        obtain ⟨rfl, u7⟩ := h7
        replace hX := hX.up u7
        replace U := U.tr u7
        refine l_eff (e_alloc zr_65) (fun v8 w8 h8 => ?_)
        obtain ⟨b8, rfl, n8⟩ := h8
        have f8 : w.heap.size ≤ b8 := Nat.le_trans U.size n8.fresh
        replace hX := hX.up n8.up
        replace U := U.tr n8.up
        have k8 := n8.blk
        obtain ⟨zs8, hz8, k8⟩ : ∃ cs : Array Value, cs.size = 4 ∧ Blk w8 b8 cs := ⟨_, rfl, k8⟩
        have nc8 : col b8 = 0 := hnw _ f8
        refine l_effN (e_store sz_65 (et g0 rfl) (cellsV (et (gS rfl g0) rfl) rfl) rfl (by exact one_uL _) k8 (by (first | (rw [hz8]; exact Nat.le_refl _) | (rw [List.size_toArray, wL_len]; exact Nat.le_refl _)))) (fun v9 w9 h9 => ?_)
        obtain ⟨rfl, x9⟩ := h9
        replace hX := hX.ch x9.ch (by first | omega | (intro b hb; first | (subst hb; exact ⟨by omega, fun hh => by have := hfz.lt hh; omega, by omega⟩) | (rcases hb with hb | hb <;> (subst hb; exact ⟨by omega, fun hh => by have := hfz.lt hh; omega, by omega⟩))))
        replace k8 := x9.blk.full (by first | (rw [hz8]; rfl) | (rw [List.size_toArray, wL_len, wL_len]))
        replace U := U.st x9 (.inr f8)
        refine l_nil ?_
        refine hK6 _ _ ?_
        refine fg3 0 2 3 (gS rfl (gS rfl (gS rfl (gS rfl (gS rfl g0))))) (gS rfl (gS rfl (gS rfl (gS rfl g0)))) g0 (fun g => ?_)
        refine c_seq (fun K10 hK10 => ?_)
        exact (by
          refine c_region ?_
          refine l_step (y_moveV (et (gS rfl (gS rfl g0)) rfl)) ?_
          refine l_step (y_moveV (et (gS rfl (gS rfl g0)) rfl)) ?_
          refine l_eff (e_callV cal_264 (aC (et (gS rfl g0) rfl) (aC (et g0 rfl) (aC (v := .int .i64 ((1 : Nat) : Int)) rfl aN))) (m_arg hX.ex hs hp (by first | exact hpf | rfl) _ (by decide))) (fun v11 w11 h11 => ?_)
          obtain ⟨rfl, u11⟩ := h11
          replace k8 := k8.up u11
          replace hX := hX.up u11
          replace U := U.tr u11
          refine l_eff (e_alloc zr_65) (fun v12 w12 h12 => ?_)
          obtain ⟨b12, rfl, n12⟩ := h12
          have d8_12 : b8 < b12 := Nat.lt_of_lt_of_le k8.lt n12.fresh
          have f12 : w.heap.size ≤ b12 := Nat.le_trans U.size n12.fresh
          replace k8 := k8.up n12.up
          replace hX := hX.up n12.up
          replace U := U.tr n12.up
          have k12 := n12.blk
          obtain ⟨zs12, hz12, k12⟩ : ∃ cs : Array Value, cs.size = 4 ∧ Blk w12 b12 cs := ⟨_, rfl, k12⟩
          have nc12 : col b12 = 0 := hnw _ f12
          refine l_effN (e_store sz_65 (et g0 rfl) (cellsV (et (gS rfl g0) rfl) rfl) rfl (by exact one_uL _) k12 (by (first | (rw [hz12]; exact Nat.le_refl _) | (rw [List.size_toArray, wL_len]; exact Nat.le_refl _)))) (fun v13 w13 h13 => ?_)
          obtain ⟨rfl, x13⟩ := h13
          replace k8 := k8.ch x13.ch (by omega)
          replace hX := hX.ch x13.ch (by first | omega | (intro b hb; first | (subst hb; exact ⟨by omega, fun hh => by have := hfz.lt hh; omega, by omega⟩) | (rcases hb with hb | hb <;> (subst hb; exact ⟨by omega, fun hh => by have := hfz.lt hh; omega, by omega⟩))))
          replace k12 := x13.blk.full (by first | (rw [hz12]; rfl) | (rw [List.size_toArray, wL_len, wL_len]))
          replace U := U.st x13 (.inr f12)
          refine l_nil ?_
          refine hK10 _ _ ?_
          refine fg4 0 2 3 4 (gS rfl (gS rfl (gS rfl (gS rfl (gS rfl (gS rfl g0)))))) (gS rfl (gS rfl (gS rfl (gS rfl (gS rfl g0))))) (gS rfl (gS rfl (gS rfl (gS rfl g0)))) g0 (fun g => ?_)
          refine c_seq (fun K14 hK14 => ?_)
          exact (by
            refine c_region ?_
            refine l_step y_assignC ?_
            refine l_nil ?_
            refine hK14 _ _ ?_
            refine c_seq (fun K15 hK15 => ?_)
            refine c_seq (fun K16 hK16 => ?_)
            exact (by
              refine c_region ?_
              refine l_step (y_moveV (et (gS rfl (gS rfl (gS rfl (gS rfl g0)))) rfl)) ?_
              refine l_eff (e_callV cal_108 (aC (et g0 rfl) aN) (m_opcode hX.ex hs hp)) (fun v17 w17 h17 => ?_)
              obtain ⟨rfl, u17⟩ := h17
              replace k8 := k8.up u17
              replace k12 := k12.up u17
              replace hX := hX.up u17
              replace U := U.tr u17
              refine l_nil ?_
              refine hK16 _ _ ?_
              refine fg6 0 2 3 4 5 19 (gS rfl (gS rfl (gS rfl (gS rfl (gS rfl (gS rfl g0)))))) (gS rfl (gS rfl (gS rfl (gS rfl (gS rfl g0))))) (gS rfl (gS rfl (gS rfl (gS rfl g0)))) (gS rfl (gS rfl (gS rfl g0))) (gS rfl (gS rfl g0)) g0 (fun g => ?_)
              refine c_block (fun Q18 hQ18 => ?_)
              refine c_seq (fun K19 hK19 => ?_)
              exact (by
                refine c_region ?_
                refine l_step (y_eql (et g0 rfl) rfl) ?_
                refine l_step (y_assignV (et g0 rfl)) ?_
                refine l_nil ?_
                refine hK19 _ _ ?_
                refine fg7 0 2 3 4 5 19 20 (gS rfl (gS rfl (gS rfl (gS rfl (gS rfl (gS rfl (gS rfl g0))))))) (gS rfl (gS rfl (gS rfl (gS rfl (gS rfl (gS rfl g0)))))) (gS rfl (gS rfl (gS rfl (gS rfl (gS rfl g0))))) (gS rfl (gS rfl (gS rfl (gS rfl g0)))) (gS rfl (gS rfl (gS rfl g0))) (gS rfl (gS rfl g0)) g0 (fun g => ?_)
                refine c_cond (et g0 rfl) (fun cB2 => ?_) (fun cB2 => ?_)
                · skip
                  
                  have hq2 : q = 86 := by have := of_decide_eq_true cB2; omega
                  subst hq2
                  have htk8 : 1 ≤ f.stack.length := htk9
                  refine c_seq (fun K21 hK21 => ?_)
                  exact (by
                    refine c_region ?_
                    refine l_step y_assignC ?_
                    refine l_nil ?_
                    refine hK21 _ _ ?_
                    refine fg5 0 2 3 4 5 (gS rfl (gS rfl (gS rfl (gS rfl (gS rfl (gS rfl (gS rfl g0))))))) (gS rfl (gS rfl (gS rfl (gS rfl (gS rfl (gS rfl g0)))))) (gS rfl (gS rfl (gS rfl (gS rfl (gS rfl g0))))) (gS rfl (gS rfl (gS rfl (gS rfl g0)))) g0 (fun g => ?_)
                    refine c_region ?_
                    refine l_step (y_bld (bC rfl bN) (bld65_w 1 (by decide))) ?_
                    refine l_effN (e_store sz_65 (et (gS rfl (gS rfl g0)) rfl) (cellsV (et g0 rfl) rfl) rfl (by exact one_uL _) k12 (by (first | (rw [hz12]; exact Nat.le_refl _) | (rw [List.size_toArray, wL_len]; exact Nat.le_refl _)))) (fun v22 w22 h22 => ?_)
                    obtain ⟨rfl, x22⟩ := h22
                    replace k8 := k8.ch x22.ch (by omega)
                    replace hX := hX.ch x22.ch (by first | omega | (intro b hb; first | (subst hb; exact ⟨by omega, fun hh => by have := hfz.lt hh; omega, by omega⟩) | (rcases hb with hb | hb <;> (subst hb; exact ⟨by omega, fun hh => by have := hfz.lt hh; omega, by omega⟩))))
                    replace k12 := x22.blk.full (by first | (rw [hz12]; rfl) | (rw [List.size_toArray, wL_len, wL_len]))
                    replace U := U.st x22 (.inr f12)
                    refine l_nil ?_
                    refine hQ18 _ _ _ (in_normal ?_)
                    refine hK15 _ _ ?_
                    refine fg5 0 2 3 4 5 (gS rfl (gS rfl (gS rfl (gS rfl (gS rfl g0))))) (gS rfl (gS rfl (gS rfl (gS rfl g0)))) (gS rfl (gS rfl (gS rfl g0))) (gS rfl (gS rfl g0)) (gS rfl g0) (fun g => ?_)
                    refine c_seq (fun K23 hK23 => ?_)
                    refine c_seq (fun K24 hK24 => ?_)
                    exact (by
                      refine c_region ?_
                      refine l_step (y_moveV (et g0 rfl)) ?_
                      refine l_step (y_eql (et g0 rfl) rfl) ?_
                      refine l_step (y_moveV (et g0 rfl)) ?_
                      refine gsplitL (i := 27) g0 (fun q25 => ?_) (fun q25 => ?_)
                      · skip
                        exact absurd (of_decide_eq_true q25) (by decide)
                      · skip
                        refine l_gstep (j := 2) (t := 27) (by exact rfl) (by exact rfl) (et g0 rfl) (by decide) (y_loadB agg_65 sz_65 (et (gS rfl (gS rfl (gS rfl (gS rfl (gS rfl g0))))) rfl) rfl (at1B k12)) ?_
                        refine l_geff (j := 2) (t := 27) (by exact rfl) (by exact rfl) (et (gS rfl g0) rfl) rfl (e_callV cal_78 (aC (et g0 rfl) aN) (isZero_spec _ _ (by decide))) (fun v26 w26 h26 => ?_)
                        obtain ⟨rfl, u26⟩ := h26
                        replace k8 := k8.up u26
                        replace k12 := k12.up u26
                        replace hX := hX.up u26
                        replace U := U.tr u26
                        refine l_step (y_pickF (et (gS rfl (gS rfl g0)) rfl) (et g0 rfl)) ?_
                        refine l_nil ?_
                        refine hK24 _ _ ?_
                        refine fg5 0 2 3 5 30 (gS rfl (gS rfl (gS rfl (gS rfl (gS rfl (gS rfl (gS rfl (gS rfl (gS rfl (gS rfl (gS rfl g0))))))))))) (gS rfl (gS rfl (gS rfl (gS rfl (gS rfl (gS rfl (gS rfl (gS rfl (gS rfl (gS rfl g0)))))))))) (gS rfl (gS rfl (gS rfl (gS rfl (gS rfl (gS rfl (gS rfl (gS rfl (gS rfl g0))))))))) (gS rfl (gS rfl (gS rfl (gS rfl (gS rfl (gS rfl (gS rfl g0))))))) g0 (fun g => ?_)
                        refine c_false (et g0 rfl) (by (exact decide_eq_false (by decide))) ?_
                        refine c_skip ?_
                        refine hK23 _ _ ?_
                        refine fg4 0 2 3 5 (gS rfl (gS rfl (gS rfl (gS rfl g0)))) (gS rfl (gS rfl (gS rfl g0))) (gS rfl (gS rfl g0)) (gS rfl g0) (fun g => ?_)
                        refine c_seq (fun K28 hK28 => ?_)
                        exact (by
                          refine c_region ?_
                          refine l_step (y_loadB agg_65 sz_65 (et (gS rfl g0) rfl) rfl (at1B k8)) ?_
                          refine l_eff (e_callV cal_300 (aC (et g0 rfl) aN) (m_u64 _ _ (by have := hgo (by omega); omega))) (fun v29 w29 h29 => ?_)
                          obtain ⟨rfl, u29⟩ := h29
                          replace k8 := k8.up u29
                          replace k12 := k12.up u29
                          replace hX := hX.up u29
                          replace U := U.tr u29
                          refine l_step (y_moveV (et g0 rfl)) ?_
                          refine l_step (y_ext (et g0 rfl) rfl) ?_
                          refine l_step (y_ext (et (gS rfl g0) rfl) rfl) ?_
                          refine l_step (y_assignV (et (gS rfl g0) rfl)) ?_
                          refine l_step (y_assignV (et (gS rfl g0) rfl)) ?_
                          refine l_nil ?_
                          refine hK28 _ _ ?_
                          refine fg4 0 2 5 6 (gS rfl (gS rfl (gS rfl (gS rfl (gS rfl (gS rfl (gS rfl (gS rfl (gS rfl (gS rfl g0)))))))))) (gS rfl (gS rfl (gS rfl (gS rfl (gS rfl (gS rfl (gS rfl (gS rfl (gS rfl g0))))))))) (gS rfl (gS rfl (gS rfl (gS rfl (gS rfl (gS rfl (gS rfl g0))))))) (gS rfl g0) (fun g => ?_)
                          refine c_seq (fun K30 hK30 => ?_)
                          refine c_seq (fun K31 hK31 => ?_)
                          exact (by
                            refine c_region ?_
                            refine l_step (y_moveV (et g0 rfl)) ?_
                            refine l_step (y_geq (et g0 rfl) rfl) ?_
                            refine l_nil ?_
                            refine hK31 _ _ ?_
                            refine fg5 0 2 5 6 42 (gS rfl (gS rfl (gS rfl (gS rfl (gS rfl g0))))) (gS rfl (gS rfl (gS rfl (gS rfl g0)))) (gS rfl (gS rfl (gS rfl g0))) (gS rfl (gS rfl g0)) g0 (fun g => ?_)
                            refine c_false (et g0 rfl) (by (exact decide_eq_false (by have := hgo (by omega); omega))) ?_
                            refine c_skip ?_
                            refine hK30 _ _ ?_
                            refine fg4 0 2 5 6 (gS rfl (gS rfl (gS rfl (gS rfl g0)))) (gS rfl (gS rfl (gS rfl g0))) (gS rfl (gS rfl g0)) (gS rfl g0) (fun g => ?_)
                            refine c_seq (fun K33 hK33 => ?_)
                            exact (by
                              refine c_region ?_
                              refine l_step (y_moveV (et (gS rfl (gS rfl (gS rfl g0))) rfl)) ?_
                              refine l_step (y_moveV (et (gS rfl (gS rfl (gS rfl g0))) rfl)) ?_
                              refine l_step (y_moveV (et (gS rfl (gS rfl (gS rfl g0))) rfl)) ?_
                              refine l_step (y_bld bN bld65_z) ?_
                              refine l_eff (e_callV cal_259 (aC (et (gS rfl (gS rfl (gS rfl g0))) rfl) (aC (et (gS rfl (gS rfl g0)) rfl) (aC (et (gS rfl g0) rfl) (aC rfl (aC (et g0 rfl) (aC (v := .int .u16 ((0 : Nat) : Int)) rfl aN)))))) (m_settle0 hX.ex hs hp (by first | exact hpf | rfl) 1 0 0 (by omega) (by decide) (by omega))) (fun v34 w34 h34 => ?_)
                              obtain ⟨rfl, cs34, y34⟩ := h34
                              replace k8 := k8.ch y34.et.go.ch (by intro hm; (have e0 := hm); omega)
                              replace k12 := k12.ch y34.et.go.ch (by intro hm; (have e0 := hm); omega)
                              replace hX := hX.trans y34
                              replace U := U.cc y34.et.go.ch (by intro b hb; exact .inl trivial)
                              obtain ⟨f2, hf2⟩ : ∃ f2 : YF, f2 = setF f 1 false 0 0 := ⟨_, rfl⟩
                              rw [← hf2] at hX
                              have hs2 : ({ s with frames := low ++ [f2] } : YSt).frames = low ++ [f2] := rfl
                              refine l_nil ?_
                              refine hK33 _ _ ?_
                              refine fg2 2 6 (gS rfl (gS rfl (gS rfl (gS rfl (gS rfl (gS rfl (gS rfl g0))))))) (gS rfl (gS rfl (gS rfl (gS rfl (gS rfl g0))))) (fun g => ?_)
                              refine c_region ?_
                              refine l_step (y_moveV (et (gS rfl g0) rfl)) ?_
                              refine l_step (y_moveV (et (gS rfl g0) rfl)) ?_
                              refine l_step (y_conv Hvaa.underlying26 Hvaa.underlying67 (et g0 rfl) (wrapU_id uk16 ?_)) ?_
                              (have := hgo (by omega); omega)
                              refine l_step (y_nil (et (gS rfl (gS rfl g0)) rfl)) ?_
                              refine l_step (y_fld fld_71_4 (et g0 rfl)) ?_
                              refine l_effN (e_store sz_67 (et g0 rfl) (cellsV (et (gS rfl (gS rfl g0)) rfl) rfl) rfl (by intro v hv; simp at hv; subst hv; rfl) hX.ex.vl.kC (by rw [hX.ex.vl.size]; omega)) (fun v35 w35 h35 => ?_)
                              obtain ⟨rfl, x35⟩ := h35
                              have hv35 := hX.stPC hs2 hp (by omega) (by have := hgo (by omega); omega) x35
                              replace k8 := k8.ch x35.ch (by intro hm; first | omega | (subst hm; omega))
                              replace k12 := k12.ch x35.ch (by intro hm; first | omega | (subst hm; omega))
                              replace hX := hv35
                              replace U := U.cc x35.ch (by intro b hb; exact .inl trivial)
                              refine l_nil ?_
                              refine end0 rfl ?_
                              rw [hf2, show ({ setF f 1 false 0 0 with pc := argN f.stack 0 } : YF) = jmpF f 86 by unfold jmpF; rw [if_neg (by decide), if_neg (by omega)]; rfl] at hX
                              exact ⟨rfl, _, hX⟩)))))
                · skip
                  
                  have hq2 : q ≠ 86 := by have := of_decide_eq_false cB2; omega
                  refine c_seq (fun K36 hK36 => ?_)
                  exact (by
                    refine c_region ?_
                    refine l_step (y_eql (et (gS rfl g0) rfl) rfl) ?_
                    refine l_step (y_assignV (et g0 rfl)) ?_
                    refine l_nil ?_
                    refine hK36 _ _ ?_
                    refine fg6 0 2 3 4 5 23 (gS rfl (gS rfl (gS rfl (gS rfl (gS rfl (gS rfl (gS rfl (gS rfl g0)))))))) (gS rfl (gS rfl (gS rfl (gS rfl (gS rfl (gS rfl (gS rfl g0))))))) (gS rfl (gS rfl (gS rfl (gS rfl (gS rfl (gS rfl g0)))))) (gS rfl (gS rfl (gS rfl (gS rfl (gS rfl g0))))) (gS rfl (gS rfl (gS rfl (gS rfl g0)))) g0 (fun g => ?_)
                    refine c_cond (et g0 rfl) (fun cB3 => ?_) (fun cB3 => ?_)
                    · skip
                      
                      have hq3 : q = 87 := by have := of_decide_eq_true cB3; omega
                      subst hq3
                      have htk8 : 2 ≤ f.stack.length := htk9
                      exact (by
                        refine c_region ?_
                        refine l_step y_assignC ?_
                        refine l_nil ?_
                        refine hQ18 _ _ _ (in_normal ?_)
                        refine hK15 _ _ ?_
                        refine fg5 0 2 3 4 5 (gS rfl (gS rfl (gS rfl (gS rfl (gS rfl (gS rfl g0)))))) (gS rfl (gS rfl (gS rfl (gS rfl (gS rfl g0))))) (gS rfl (gS rfl (gS rfl (gS rfl g0)))) (gS rfl (gS rfl (gS rfl g0))) g0 (fun g => ?_)
                        refine c_seq (fun K38 hK38 => ?_)
                        refine c_seq (fun K39 hK39 => ?_)
                        exact (by
                          refine c_region ?_
                          refine l_step (y_moveV (et g0 rfl)) ?_
                          refine l_step (y_eql (et g0 rfl) rfl) ?_
                          refine l_step (y_moveV (et g0 rfl)) ?_
                          refine gsplitL (i := 27) g0 (fun q40 => ?_) (fun q40 => ?_)
                          · skip
                            exact absurd (of_decide_eq_true q40) (by decide)
                          · skip
                            refine l_gstep (j := 2) (t := 27) (by exact rfl) (by exact rfl) (et g0 rfl) (by decide) (y_loadB agg_65 sz_65 (et (gS rfl (gS rfl (gS rfl (gS rfl (gS rfl g0))))) rfl) rfl (at1B k12)) ?_
                            refine l_geff (j := 2) (t := 27) (by exact rfl) (by exact rfl) (et (gS rfl g0) rfl) rfl (e_callV cal_78 (aC (et g0 rfl) aN) (isZero_spec _ _ (argN_lt hB _))) (fun v41 w41 h41 => ?_)
                            obtain ⟨rfl, u41⟩ := h41
                            replace k8 := k8.up u41
                            replace k12 := k12.up u41
                            replace hX := hX.up u41
                            replace U := U.tr u41
                            refine l_step (y_pickF (et (gS rfl (gS rfl g0)) rfl) (et g0 rfl)) ?_
                            refine l_nil ?_
                            refine hK39 _ _ ?_
                            refine fg5 0 2 3 5 30 (gS rfl (gS rfl (gS rfl (gS rfl (gS rfl (gS rfl (gS rfl (gS rfl (gS rfl (gS rfl (gS rfl g0))))))))))) (gS rfl (gS rfl (gS rfl (gS rfl (gS rfl (gS rfl (gS rfl (gS rfl (gS rfl (gS rfl g0)))))))))) (gS rfl (gS rfl (gS rfl (gS rfl (gS rfl (gS rfl (gS rfl (gS rfl (gS rfl g0))))))))) (gS rfl (gS rfl (gS rfl (gS rfl (gS rfl (gS rfl (gS rfl g0))))))) g0 (fun g => ?_)
                            refine c_cond (et g0 rfl) (fun cB4 => ?_) (fun cB4 => ?_)
                            · skip
                              
                              have hz9 : argN f.stack 1 = 0 := of_decide_eq_true cB4
                              refine c_seq (fun K43 hK43 => ?_)
                              exact (by
                                refine c_region ?_
                                refine l_step (y_moveV (et (gS rfl (gS rfl (gS rfl (gS rfl g0)))) rfl)) ?_
                                refine l_step (y_moveV (et (gS rfl (gS rfl (gS rfl (gS rfl g0)))) rfl)) ?_
                                refine l_step (y_moveV (et (gS rfl (gS rfl (gS rfl g0))) rfl)) ?_
                                refine l_step (y_bld bN bld65_z) ?_
                                refine l_eff (e_callV cal_259 (aC (et (gS rfl (gS rfl (gS rfl g0))) rfl) (aC (et (gS rfl (gS rfl g0)) rfl) (aC (et (gS rfl g0) rfl) (aC rfl (aC (et g0 rfl) (aC (v := .int .u16 ((1 : Nat) : Int)) rfl aN)))))) (m_settle0 hX.ex hs hp (by first | exact hpf | rfl) 2 0 1 (by omega) (by decide) (by omega))) (fun v44 w44 h44 => ?_)
                                obtain ⟨rfl, cs44, y44⟩ := h44
                                replace k8 := k8.ch y44.et.go.ch (by intro hm; (have e0 := hm); omega)
                                replace k12 := k12.ch y44.et.go.ch (by intro hm; (have e0 := hm); omega)
                                replace hX := hX.trans y44
                                replace U := U.cc y44.et.go.ch (by intro b hb; exact .inl trivial)
                                refine l_nil ?_
                                refine hK43 _ _ ?_
                                refine fg0 (fun g => ?_)
                                refine c_ret ?_
                                repeat with_reducible refine then_ret ?_
                                refine ret0 rfl ?_
                                rw [show setF f 2 false 0 1 = jmpF f 87 by unfold jmpF; rw [if_neg (by decide), if_pos ⟨rfl, hz9⟩]] at hX
                                exact ⟨rfl, _, hX⟩)
                            · skip
                              
                              have hz9 : argN f.stack 1 ≠ 0 := of_decide_eq_false cB4
                              refine c_skip ?_
                              refine hK38 _ _ ?_
                              refine fg4 0 2 3 5 (gS rfl (gS rfl (gS rfl (gS rfl g0)))) (gS rfl (gS rfl (gS rfl g0))) (gS rfl (gS rfl g0)) (gS rfl g0) (fun g => ?_)
                              refine c_seq (fun K45 hK45 => ?_)
                              exact (by
                                refine c_region ?_
                                refine l_step (y_loadB agg_65 sz_65 (et (gS rfl g0) rfl) rfl (at1B k8)) ?_
                                refine l_eff (e_callV cal_300 (aC (et g0 rfl) aN) (m_u64 _ _ (by have := hgo (by omega); omega))) (fun v46 w46 h46 => ?_)
                                obtain ⟨rfl, u46⟩ := h46
                                replace k8 := k8.up u46
                                replace k12 := k12.up u46
                                replace hX := hX.up u46
                                replace U := U.tr u46
                                refine l_step (y_moveV (et g0 rfl)) ?_
                                refine l_step (y_ext (et g0 rfl) rfl) ?_
                                refine l_step (y_ext (et (gS rfl g0) rfl) rfl) ?_
                                refine l_step (y_assignV (et (gS rfl g0) rfl)) ?_
                                refine l_step (y_assignV (et (gS rfl g0) rfl)) ?_
                                refine l_nil ?_
                                refine hK45 _ _ ?_
                                refine fg4 0 2 5 6 (gS rfl (gS rfl (gS rfl (gS rfl (gS rfl (gS rfl (gS rfl (gS rfl (gS rfl (gS rfl g0)))))))))) (gS rfl (gS rfl (gS rfl (gS rfl (gS rfl (gS rfl (gS rfl (gS rfl (gS rfl g0))))))))) (gS rfl (gS rfl (gS rfl (gS rfl (gS rfl (gS rfl (gS rfl g0))))))) (gS rfl g0) (fun g => ?_)
                                refine c_seq (fun K47 hK47 => ?_)
                                refine c_seq (fun K48 hK48 => ?_)
                                exact (by
                                  refine c_region ?_
                                  refine l_step (y_moveV (et g0 rfl)) ?_
                                  refine l_step (y_geq (et g0 rfl) rfl) ?_
                                  refine l_nil ?_
                                  refine hK48 _ _ ?_
                                  refine fg5 0 2 5 6 42 (gS rfl (gS rfl (gS rfl (gS rfl (gS rfl g0))))) (gS rfl (gS rfl (gS rfl (gS rfl g0)))) (gS rfl (gS rfl (gS rfl g0))) (gS rfl (gS rfl g0)) g0 (fun g => ?_)
                                  refine c_false (et g0 rfl) (by (exact decide_eq_false (by have := hgo (by omega); omega))) ?_
                                  refine c_skip ?_
                                  refine hK47 _ _ ?_
                                  refine fg4 0 2 5 6 (gS rfl (gS rfl (gS rfl (gS rfl g0)))) (gS rfl (gS rfl (gS rfl g0))) (gS rfl (gS rfl g0)) (gS rfl g0) (fun g => ?_)
                                  refine c_seq (fun K50 hK50 => ?_)
                                  exact (by
                                    refine c_region ?_
                                    refine l_step (y_moveV (et (gS rfl (gS rfl (gS rfl g0))) rfl)) ?_
                                    refine l_step (y_moveV (et (gS rfl (gS rfl (gS rfl g0))) rfl)) ?_
                                    refine l_step (y_moveV (et (gS rfl (gS rfl (gS rfl g0))) rfl)) ?_
                                    refine l_step (y_bld bN bld65_z) ?_
                                    refine l_eff (e_callV cal_259 (aC (et (gS rfl (gS rfl (gS rfl g0))) rfl) (aC (et (gS rfl (gS rfl g0)) rfl) (aC (et (gS rfl g0) rfl) (aC rfl (aC (et g0 rfl) (aC (v := .int .u16 ((0 : Nat) : Int)) rfl aN)))))) (m_settle0 hX.ex hs hp (by first | exact hpf | rfl) 2 0 0 (by omega) (by decide) (by omega))) (fun v51 w51 h51 => ?_)
                                    obtain ⟨rfl, cs51, y51⟩ := h51
                                    replace k8 := k8.ch y51.et.go.ch (by intro hm; (have e0 := hm); omega)
                                    replace k12 := k12.ch y51.et.go.ch (by intro hm; (have e0 := hm); omega)
                                    replace hX := hX.trans y51
                                    replace U := U.cc y51.et.go.ch (by intro b hb; exact .inl trivial)
                                    obtain ⟨f2, hf2⟩ : ∃ f2 : YF, f2 = setF f 2 false 0 0 := ⟨_, rfl⟩
                                    rw [← hf2] at hX
                                    have hs2 : ({ s with frames := low ++ [f2] } : YSt).frames = low ++ [f2] := rfl
                                    refine l_nil ?_
                                    refine hK50 _ _ ?_
                                    refine fg2 2 6 (gS rfl (gS rfl (gS rfl (gS rfl (gS rfl (gS rfl (gS rfl g0))))))) (gS rfl (gS rfl (gS rfl (gS rfl (gS rfl g0))))) (fun g => ?_)
                                    refine c_region ?_
                                    refine l_step (y_moveV (et (gS rfl g0) rfl)) ?_
                                    refine l_step (y_moveV (et (gS rfl g0) rfl)) ?_
                                    refine l_step (y_conv Hvaa.underlying26 Hvaa.underlying67 (et g0 rfl) (wrapU_id uk16 ?_)) ?_
                                    (have := hgo (by omega); omega)
                                    refine l_step (y_nil (et (gS rfl (gS rfl g0)) rfl)) ?_
                                    refine l_step (y_fld fld_71_4 (et g0 rfl)) ?_
                                    refine l_effN (e_store sz_67 (et g0 rfl) (cellsV (et (gS rfl (gS rfl g0)) rfl) rfl) rfl (by intro v hv; simp at hv; subst hv; rfl) hX.ex.vl.kC (by rw [hX.ex.vl.size]; omega)) (fun v52 w52 h52 => ?_)
                                    obtain ⟨rfl, x52⟩ := h52
                                    have hv52 := hX.stPC hs2 hp (by omega) (by have := hgo (by omega); omega) x52
                                    replace k8 := k8.ch x52.ch (by intro hm; first | omega | (subst hm; omega))
                                    replace k12 := k12.ch x52.ch (by intro hm; first | omega | (subst hm; omega))
                                    replace hX := hv52
                                    replace U := U.cc x52.ch (by intro b hb; exact .inl trivial)
                                    refine l_nil ?_
                                    refine end0 rfl ?_
                                    rw [hf2, show ({ setF f 2 false 0 0 with pc := argN f.stack 0 } : YF) = jmpF f 87 by unfold jmpF; rw [if_neg (by decide), if_neg (by omega)]; rfl] at hX
                                    exact ⟨rfl, _, hX⟩)))))
                    · skip
                      
                      have hq3 : q ≠ 87 := by have := of_decide_eq_false cB3; omega
                      have hq91 : q = 91 := by omega
                      subst hq91
                      refine c_skip ?_
                      refine hQ18 _ _ _ (in_normal ?_)
                      refine hK15 _ _ ?_
                      refine fg5 0 2 3 4 5 (gS rfl (gS rfl (gS rfl (gS rfl (gS rfl g0))))) (gS rfl (gS rfl (gS rfl (gS rfl g0)))) (gS rfl (gS rfl (gS rfl g0))) (gS rfl (gS rfl g0)) (gS rfl g0) (fun g => ?_)
                      refine c_seq (fun K53 hK53 => ?_)
                      refine c_seq (fun K54 hK54 => ?_)
                      exact (by
                        refine c_region ?_
                        refine l_step (y_moveV (et g0 rfl)) ?_
                        refine l_step (y_eql (et g0 rfl) rfl) ?_
                        refine l_step (y_moveV (et g0 rfl)) ?_
                        refine gsplitL (i := 27) g0 (fun q55 => ?_) (fun q55 => ?_)
                        · skip
                          refine l_gskip (j := 2) (t := 27) (by exact rfl) (by exact rfl) (et g0 rfl) (by decide) (by decide) ?_
                          refine l_gskip (j := 2) (t := 27) (by exact rfl) (by exact rfl) (et (gS rfl g0) rfl) (by decide) (by decide) ?_
                          refine l_step (y_pickT (et (gS rfl (gS rfl g0)) rfl) rfl) ?_
                          refine l_nil ?_
                          refine hK54 _ _ ?_
                          refine fg5 0 2 3 5 30 (gS rfl (gS rfl (gS rfl (gS rfl (gS rfl (gS rfl (gS rfl (gS rfl (gS rfl (gS rfl (gS rfl g0))))))))))) (gS rfl (gS rfl (gS rfl (gS rfl (gS rfl (gS rfl (gS rfl (gS rfl (gS rfl (gS rfl g0)))))))))) (gS rfl (gS rfl (gS rfl (gS rfl (gS rfl (gS rfl (gS rfl (gS rfl (gS rfl g0))))))))) (gS rfl (gS rfl (gS rfl (gS rfl (gS rfl (gS rfl (gS rfl g0))))))) g0 (fun g => ?_)
                          refine c_true (et g0 rfl) rfl ?_
                          refine c_seq (fun K57 hK57 => ?_)
                          exact (by
                            refine c_region ?_
                            refine l_step (y_moveV (et (gS rfl (gS rfl (gS rfl (gS rfl g0)))) rfl)) ?_
                            refine l_step (y_moveV (et (gS rfl (gS rfl (gS rfl (gS rfl g0)))) rfl)) ?_
                            refine l_step (y_moveV (et (gS rfl (gS rfl (gS rfl g0))) rfl)) ?_
                            refine l_step (y_bld bN bld65_z) ?_
                            refine l_eff (e_callV cal_259 (aC (et (gS rfl (gS rfl (gS rfl g0))) rfl) (aC (et (gS rfl (gS rfl g0)) rfl) (aC (et (gS rfl g0) rfl) (aC rfl (aC (et g0 rfl) (aC (v := .int .u16 ((1 : Nat) : Int)) rfl aN)))))) (m_settle0 hX.ex hs hp (by first | exact hpf | rfl) 0 0 1 (by omega) (by decide) (by omega))) (fun v58 w58 h58 => ?_)
                            obtain ⟨rfl, cs58, y58⟩ := h58
                            replace k8 := k8.ch y58.et.go.ch (by intro hm; (have e0 := hm); omega)
                            replace k12 := k12.ch y58.et.go.ch (by intro hm; (have e0 := hm); omega)
                            replace hX := hX.trans y58
                            replace U := U.cc y58.et.go.ch (by intro b hb; exact .inl trivial)
                            refine l_nil ?_
                            refine hK57 _ _ ?_
                            refine fg0 (fun g => ?_)
                            refine c_ret ?_
                            repeat with_reducible refine then_ret ?_
                            refine ret0 rfl ?_
                            exact ⟨rfl, _, hX⟩)
                        · skip
                          exact absurd (of_decide_eq_false q55) (by decide))))))))))
theorem m_opKeccak {w : World} {H : Store} {col : Nat → Nat} {bc : Nat} {cs : Array Value} {V : EV} {s : YSt} {sn : List Nat} {sv : List AW} {ms : List (List Nat)} {c : Nat} {low : List YF} {f : YF} (hE : EX w H col bc cs V s sn sv ms c) (hs : s.frames = low ++ [f]) (hp : s.phase = 1) {lo : List (List Nat)} {m : List Nat} (hms : ms = lo ++ [m]) (hpc9 : f.pc < 512) (htk9 : 2 ≤ f.stack.length) (hr : argN f.stack 1 ≠ 0 → argN f.stack 0 + argN f.stack 1 ≤ m.length) :
    Ret 192 [.pointer (some ⟨bc, 0, none⟩)] w (fun v w' => v = .tuple #[] ∧ ∃ H' cs', XT w H col w' H' col bc cs' V { s with frames := low ++ [ansN f 2 (kecN (rdN m (argN f.stack 0) (argN f.stack 1)))] } sn sv ms c) := by
  obtain ⟨n9, hn9, hR⟩ := hE.topF hs
  have hB := hE.fbT hs
  have h6 := hE.six hs
  have htop := hE.cTop hs
  have hphs := hE.cPh hp
  have hbp := hB.pc
  have hbs := hB.stk
  have hbg := hB.gas
  have hbc9 := hB.code
  have hnw := hE.vl.new
  have hfz := hE.vl.fz
  have hcC := hE.vl.colC
  have hbc0 := hE.vl.kC.lt
  have hX := XT.refl hE
  refine enter (n := 30) Hvaa.func192 rfl rfl (Nat.le_of_ble_eq_true rfl) ?_
  have U : Ch (fun _ => True) w w := Ch.refl _ w
  refine c_seq (fun K1 hK1 => ?_)
  exact (by
    refine c_region ?_
    refine l_step (y_moveV (et g0 rfl)) ?_
    refine l_eff (e_callV cal_183 (aC (et g0 rfl) aN) (m_running hX.ex hs hp)) (fun v2 w2 h2 => ?_)
    obtain ⟨rfl, u2⟩ := h2
    replace hX := hX.up u2
    replace U := U.tr u2
    refine l_step (y_assignV (et g0 rfl)) ?_
    refine l_nil ?_
    refine hK1 _ _ ?_
    refine fg2 0 2 (gS rfl (gS rfl (gS rfl g0))) g0 (fun g => ?_)
    refine c_seq (fun K3 hK3 => ?_)
    refine c_seq (fun K4 hK4 => ?_)
    exact (by
      refine c_region ?_
      refine l_step (y_moveV (et g0 rfl)) ?_
      refine l_step (y_eqlNil Hvaa.underlying276 (et g0 rfl) rfl) ?_
      refine l_nil ?_
      refine hK4 _ _ ?_
      refine fg3 0 2 8 (gS rfl (gS rfl (gS rfl g0))) (gS rfl (gS rfl g0)) g0 (fun g => ?_)
      refine c_false (et g0 rfl) rfl ?_
      refine c_skip ?_
      refine hK3 _ _ ?_
      refine fg2 0 2 (gS rfl (gS rfl g0)) (gS rfl g0) (fun g => ?_)
      refine c_seq (fun K6 hK6 => ?_)
      exact (by
        refine c_region ?_
        refine l_step (y_moveV (et (gS rfl g0) rfl)) ?_
        refine l_step (y_moveV (et (gS rfl (gS rfl g0)) rfl)) ?_
        refine l_step (y_moveV (et (gS rfl (gS rfl g0)) rfl)) ?_
        refine l_eff (e_callV cal_264 (aC (et (gS rfl g0) rfl) (aC (et g0 rfl) (aC (v := .int .i64 ((0 : Nat) : Int)) rfl aN))) (m_arg hX.ex hs hp (by first | exact hpf | rfl) _ (by decide))) (fun v7 w7 h7 => ?_)
        obtain ⟨rfl, u7⟩ := h7
        replace hX := hX.up u7
        replace U := U.tr u7
        refine l_step (y_moveV (et (gS rfl (gS rfl (gS rfl (gS rfl (gS rfl g0))))) rfl)) ?_
        refine l_step (y_moveV (et (gS rfl (gS rfl (gS rfl (gS rfl (gS rfl g0))))) rfl)) ?_
        refine l_eff (e_callV cal_264 (aC (et (gS rfl g0) rfl) (aC (et g0 rfl) (aC (v := .int .i64 ((1 : Nat) : Int)) rfl aN))) (m_arg hX.ex hs hp (by first | exact hpf | rfl) _ (by decide))) (fun v8 w8 h8 => ?_)
        obtain ⟨rfl, u8⟩ := h8
        replace hX := hX.up u8
        replace U := U.tr u8
        refine l_eff (e_callV cal_292 (aC (et (gS rfl (gS rfl (gS rfl (gS rfl (gS rfl (gS rfl g0)))))) rfl) (aC (et (gS rfl (gS rfl (gS rfl g0))) rfl) (aC (et g0 rfl) aN))) (m_read hX.ex hs hp hms _ _ (argN_lt hB _) (argN_lt hB _) hr)) (fun v9 w9 h9 => ?_)
        obtain ⟨H9, vb9, rfl, g9, n9⟩ := h9
        replace hX := hX.gn g9
        replace U := U.cc g9.ch (by intro b hb; exact .inl trivial)
        obtain ⟨ca9, cc9, rfl⟩ := n9.sl
        refine l_step (y_moveV (et g0 rfl)) ?_
        refine l_step (y_ext (et g0 rfl) rfl) ?_
        refine l_step (y_ext (et (gS rfl g0) rfl) rfl) ?_
        refine l_step (y_assignV (et (gS rfl g0) rfl)) ?_
        refine l_step (y_assignV (et (gS rfl g0) rfl)) ?_
        refine l_nil ?_
        refine hK6 _ _ ?_
        refine fg4 0 2 3 4 (gS rfl (gS rfl (gS rfl (gS rfl (gS rfl (gS rfl (gS rfl (gS rfl (gS rfl (gS rfl (gS rfl (gS rfl (gS rfl (gS rfl g0)))))))))))))) (gS rfl (gS rfl (gS rfl (gS rfl (gS rfl (gS rfl (gS rfl (gS rfl (gS rfl (gS rfl (gS rfl (gS rfl (gS rfl g0))))))))))))) (gS rfl g0) g0 (fun g => ?_)
        refine c_seq (fun K10 hK10 => ?_)
        refine c_seq (fun K11 hK11 => ?_)
        exact (by
          refine c_region ?_
          refine l_step (y_moveV (et g0 rfl)) ?_
          refine l_step (y_not (et g0 rfl)) ?_
          refine l_nil ?_
          refine hK11 _ _ ?_
          refine fg4 0 2 3 21 (gS rfl (gS rfl (gS rfl (gS rfl (gS rfl g0))))) (gS rfl (gS rfl (gS rfl (gS rfl g0)))) (gS rfl (gS rfl (gS rfl g0))) g0 (fun g => ?_)
          refine c_false (et g0 rfl) (by rfl) ?_
          refine c_skip ?_
          refine hK10 _ _ ?_
          refine fg3 0 2 3 (gS rfl (gS rfl (gS rfl g0))) (gS rfl (gS rfl g0)) (gS rfl g0) (fun g => ?_)
          exact (by
            refine c_region ?_
            refine l_step (y_moveV (et (gS rfl (gS rfl g0)) rfl)) ?_
            refine l_step (y_moveV (et (gS rfl (gS rfl g0)) rfl)) ?_
            refine l_step (y_moveV (et (gS rfl (gS rfl g0)) rfl)) ?_
            refine l_eff (e_callV cal_166 (aC (et g0 rfl) aN) (m_kec hX.ex.vl.fz n9)) (fun v13 w13 h13 => ?_)
            obtain ⟨rfl, u13⟩ := h13
            replace hX := hX.up u13
            replace U := U.tr u13
            refine l_eff (e_callV cal_83 (aC (et g0 rfl) aN) (fromBytes_spec _ _)) (fun v14 w14 h14 => ?_)
            obtain ⟨rfl, u14⟩ := h14
            replace hX := hX.up u14
            replace U := U.tr u14
            refine l_eff (e_callV cal_259 (aC (et (gS rfl (gS rfl (gS rfl (gS rfl g0)))) rfl) (aC (et (gS rfl (gS rfl (gS rfl g0))) rfl) (aC (v := .int .u16 ((2 : Nat) : Int)) rfl (aC rfl (aC (et g0 rfl) (aC (v := .int .u16 ((1 : Nat) : Int)) rfl aN)))))) (m_settle1 hX.ex hs hp rfl 2 _ 1 (by omega) (kec_lt _) (by omega) (by omega))) (fun v15 w15 h15 => ?_)
            obtain ⟨rfl, cs15, y15⟩ := h15
            replace hX := hX.trans y15
            replace U := U.cc y15.et.go.ch (by intro b hb; exact .inl trivial)
            refine l_nil ?_
            refine end0 rfl ?_
            exact ⟨rfl, _, _, hX⟩)))))
end Go.Proofs.YgvaawGreat
