import Derived.Test.YgvaawGreatZ23
set_option maxRecDepth 100000
set_option maxHeartbeats 4000000
set_option linter.unusedSimpArgs false
set_option linter.unusedVariables false
namespace Go.Proofs.YgvaawGreat
open Go
section
variable {w w' : World} {H : Store} {col : Nat → Nat} {bc : Nat} {cs : Array Value} {V : EV} {s : YSt} {sn : List Nat} {sv : List AW} {ms : List (List Nat)} {c : Nat} {lo : List (List Nat)} {m : List Nat}
theorem EX.mMv (hE : EX w H col bc cs V s sn sv ms c) (hms : ms = lo ++ [m]) (dst src k : Nat) (hk : 0 < k) (hok : dst + k ≤ m.length) (hok2 : src + k ≤ m.length) : Ret 298 [.pointer (some ⟨bc, 1, none⟩), .int .u32 (dst : Nat), .int .u32 (src : Nat), .int .u32 (k : Nat)] w (fun v w' => v = .bool true ∧ (∃ bm cm n, MA w' col cs (lo ++ [wrN m dst (cutN m src k)]) bm cm n) ∧ Ch (fun b => col b = 8) w w') := by
  obtain ⟨bm, cm, n, hM⟩ := hE.mx
  subst hms
  have h8 := hM.own8 (by omega)
  refine (g_move hE.vl.kC hM hE.vl.colC dst src k hk hok hok2).mono fun v w' h => ?_
  obtain ⟨e, cm', h1, h2⟩ := h
  rw [cut_in hok2, lay_wr (by rw [len_cut]; exact hok) (by rw [len_cut]; exact hk)] at h1
  exact ⟨e, ⟨_, _, _, h1⟩, h2.mono (fun b _ hb => by rw [hb]; exact h8)⟩
theorem EX.mWr (hE : EX w H col bc cs V s sn sv ms c) (hms : ms = lo ++ [m]) (off k x : Nat) (hk : 0 < k) (hok : off + k ≤ m.length) (hx64 : x < 18446744073709551616) {a : Option Addr} {sc : Nat} {l : List Nat} (hB : BV H (.slice a l.length sc) l) (hll : l.length ≤ 717280) : Ret 258 [.pointer (some ⟨bc, 1, none⟩), .int .u32 (off : Nat), .slice a l.length sc, .int .u64 (x : Nat), .int .u32 (k : Nat)] w (fun v w' => v = .bool true ∧ (∃ bm cm n, MA w' col cs (lo ++ [wrN m off (cutN l x k)]) bm cm n) ∧ Ch (fun b => col b = 8) w w') := by
  obtain ⟨bm, cm, n, hM⟩ := hE.mx
  subst hms
  have h8 := hM.own8 (by omega)
  have fin : ∀ v w', (v = Value.bool true ∧ ∃ cm', MA w' col cs (lo ++ [lay m off (cutN l x k)]) bm cm' n ∧ Ch (fun b => b = bm) w w') → (v = .bool true ∧ (∃ bm cm n, MA w' col cs (lo ++ [wrN m off (cutN l x k)]) bm cm n) ∧ Ch (fun b => col b = 8) w w') := fun v w' h => by
    obtain ⟨e, cm', h1, h2⟩ := h
    rw [lay_wr (by rw [len_cut]; exact hok) (by rw [len_cut]; exact hk)] at h1
    exact ⟨e, ⟨_, _, _, h1⟩, h2.mono (fun b _ hb => by rw [hb]; exact h8)⟩
  obtain ⟨_, _, e9, hsc, _⟩ := (hB.wv hE.vl.fz).val
  cases e9
  by_cases hxl : x < l.length
  · rcases hB.sv.at' with ⟨h1, h2⟩ | ⟨b, o, c9, cs9, h1, h2, h3, h4, h5⟩
    · omega
    · cases h1
      have hne : b ≠ bm := fun e => by
        have := hE.vl.kept b ⟨cs9, h4⟩
        rw [e] at this
        omega
      have hrw : Row w b o (bL l) := (hE.vl.fz.blk b cs9 h4).row h5
      by_cases hxk : l.length - x < k
      · exact (g_writea hE.vl.kC hM hE.vl.colC off k x hk hok hx64 hB.dig (by omega) hsc hrw hne hxl hxk).mono fin
      · exact (g_writeb hE.vl.kC hM hE.vl.colC off k x hk hok hx64 hB.dig (by omega) hsc hrw hne hxl (by omega)).mono fin
  · exact (g_write0 hE.vl.kC hM hE.vl.colC off k x hk hok hx64 hB.dig (by omega) hsc (by omega)).mono fin
end
theorem m_opCopy55 {w : World} {H : Store} {col : Nat → Nat} {bc : Nat} {cs : Array Value} {V : EV} {s : YSt} {sn : List Nat} {sv : List AW} {ms : List (List Nat)} {c : Nat} {low : List YF} {f : YF} (hE : EX w H col bc cs V s sn sv ms c) (hs : s.frames = low ++ [f]) (hp : s.phase = 1) {lo : List (List Nat)} {m : List Nat} (hms : ms = lo ++ [m]) (hq : opcN f = 55) (hpc9 : f.pc < 512) (htk9 : 3 ≤ f.stack.length) (hrl9 : s.ret.length ≤ 717280) (hr : argN f.stack 2 ≠ 0 → argN f.stack 0 + argN f.stack 2 ≤ m.length) :
    Ret 195 [.pointer (some ⟨bc, 0, none⟩)] w (fun v w' => v = .tuple #[] ∧ ∃ cs', XT w H col w' H col bc cs' V { s with frames := low ++ [setF f 3 false 0 1] } sn sv (lo ++ [cpN m (argN f.stack 0) f.input (argN f.stack 1) (argN f.stack 2)]) c) := by
  obtain ⟨n9, hn9, hR⟩ := hE.topF hs
  have hB := hE.fbT hs
  have h6 := hE.six hs
  have htop := hE.cTop hs
  have hphs := hE.cPh hp
  have hbp := hB.pc
  have hbs := hB.stk
  have hbg := hB.gas
  have hbc9 := hB.code
  have hnw := hE.vl.new
  have hfz := hE.vl.fz
  have hcC := hE.vl.colC
  have hbc0 := hE.vl.kC.lt
  have hX := XT.refl hE
  have hmx := hE.memMx hms
  obtain ⟨ca9, cc9, ia9, ic9, hr5, hcode, hinp⟩ := hR.r5
  obtain ⟨ra9, rc9, hret9, hrb9⟩ := hE.lx.ret
  have hbi9 := hB.input
  refine enter (n := 105) Hvaa.func195 rfl rfl (Nat.le_of_ble_eq_true rfl) ?_
  have U : Ch (fun _ => True) w w := Ch.refl _ w
  refine c_seq (fun K1 hK1 => ?_)
  exact (by
    refine c_region ?_
    refine l_step (y_moveV (et g0 rfl)) ?_
    refine l_eff (e_callV cal_183 (aC (et g0 rfl) aN) (m_running hX.ex hs hp)) (fun v2 w2 h2 => ?_)
    obtain ⟨rfl, u2⟩ := h2
    replace hX := hX.up u2
    replace U := U.tr u2
    refine l_step (y_assignV (et g0 rfl)) ?_
    refine l_nil ?_
    refine hK1 _ _ ?_
    refine fg2 0 2 (gS rfl (gS rfl (gS rfl g0))) g0 (fun g => ?_)
    refine c_seq (fun K3 hK3 => ?_)
    refine c_seq (fun K4 hK4 => ?_)
    exact (by
      refine c_region ?_
      refine l_step (y_moveV (et g0 rfl)) ?_
      refine l_step (y_eqlNil Hvaa.underlying276 (et g0 rfl) rfl) ?_
      refine l_nil ?_
      refine hK4 _ _ ?_
      refine fg3 0 2 14 (gS rfl (gS rfl (gS rfl g0))) (gS rfl (gS rfl g0)) g0 (fun g => ?_)
      refine c_false (et g0 rfl) rfl ?_
      refine c_skip ?_
      refine hK3 _ _ ?_
      refine fg2 0 2 (gS rfl (gS rfl g0)) (gS rfl g0) (fun g => ?_)
      refine c_seq (fun K6 hK6 => ?_)
      exact (by
        refine c_region ?_
        refine l_step (y_moveV (et (gS rfl g0) rfl)) ?_
        refine l_step (y_moveV (et (gS rfl g0) rfl)) ?_
        refine l_eff (e_callV cal_264 (aC (et (gS rfl g0) rfl) (aC (et g0 rfl) (aC (v := .int .i64 ((0 : Nat) : Int)) rfl aN))) (m_arg hX.ex hs hp (by first | exact hpf | rfl) _ (by decide))) (fun v7 w7 h7 => ?_)
        obtain ⟨rfl, u7⟩ := h7
        replace hX := hX.up u7
        replace U := U.tr u7
        refine l_eff (e_alloc zr_65) (fun v8 w8 h8 => ?_)
        obtain ⟨b8, rfl, n8⟩ := h8
        have f8 : w.heap.size ≤ b8 := Nat.le_trans U.size n8.fresh
        replace hX := hX.up n8.up
        replace U := U.tr n8.up
        have k8 := n8.blk
        obtain ⟨zs8, hz8, k8⟩ : ∃ cs : Array Value, cs.size = 4 ∧ Blk w8 b8 cs := ⟨_, rfl, k8⟩
        have nc8 : col b8 = 0 := hnw _ f8
        refine l_effN (e_store sz_65 (et g0 rfl) (cellsV (et (gS rfl g0) rfl) rfl) rfl (by exact one_uL _) k8 (by (first | (rw [hz8]; exact Nat.le_refl _) | (rw [List.size_toArray, wL_len]; exact Nat.le_refl _)))) (fun v9 w9 h9 => ?_)
        obtain ⟨rfl, x9⟩ := h9
        replace hX := hX.ch x9.ch (by first | omega | (intro b hb; first | (subst hb; first | exact ⟨by omega, fun hh => by have := hfz.lt hh; omega, by omega⟩ | exact ⟨by omega, by assumption, by omega⟩) | (rcases hb with hb | hb <;> (subst hb; first | exact ⟨by omega, fun hh => by have := hfz.lt hh; omega, by omega⟩ | exact ⟨by omega, by assumption, by omega⟩))))
        replace k8 := x9.blk.full (by first | (rw [hz8]; rfl) | (rw [List.size_toArray, wL_len, wL_len]))
        replace U := U.st x9 (.inr f8)
        refine l_nil ?_
        refine hK6 _ _ ?_
        refine fg3 0 2 3 (gS rfl (gS rfl (gS rfl (gS rfl (gS rfl g0))))) (gS rfl (gS rfl (gS rfl (gS rfl g0)))) g0 (fun g => ?_)
        refine c_seq (fun K10 hK10 => ?_)
        exact (by
          refine c_region ?_
          refine l_step (y_moveV (et (gS rfl (gS rfl g0)) rfl)) ?_
          refine l_step (y_moveV (et (gS rfl (gS rfl g0)) rfl)) ?_
          refine l_eff (e_callV cal_264 (aC (et (gS rfl g0) rfl) (aC (et g0 rfl) (aC (v := .int .i64 ((1 : Nat) : Int)) rfl aN))) (m_arg hX.ex hs hp (by first | exact hpf | rfl) _ (by decide))) (fun v11 w11 h11 => ?_)
          obtain ⟨rfl, u11⟩ := h11
          replace k8 := k8.up u11
          replace hX := hX.up u11
          replace U := U.tr u11
          refine l_eff (e_alloc zr_65) (fun v12 w12 h12 => ?_)
          obtain ⟨b12, rfl, n12⟩ := h12
          have d8_12 : b8 < b12 := Nat.lt_of_lt_of_le k8.lt n12.fresh
          have f12 : w.heap.size ≤ b12 := Nat.le_trans U.size n12.fresh
          replace k8 := k8.up n12.up
          replace hX := hX.up n12.up
          replace U := U.tr n12.up
          have k12 := n12.blk
          obtain ⟨zs12, hz12, k12⟩ : ∃ cs : Array Value, cs.size = 4 ∧ Blk w12 b12 cs := ⟨_, rfl, k12⟩
          have nc12 : col b12 = 0 := hnw _ f12
          refine l_effN (e_store sz_65 (et g0 rfl) (cellsV (et (gS rfl g0) rfl) rfl) rfl (by exact one_uL _) k12 (by (first | (rw [hz12]; exact Nat.le_refl _) | (rw [List.size_toArray, wL_len]; exact Nat.le_refl _)))) (fun v13 w13 h13 => ?_)
          obtain ⟨rfl, x13⟩ := h13
          replace k8 := k8.ch x13.ch (by omega)
          replace hX := hX.ch x13.ch (by first | omega | (intro b hb; first | (subst hb; first | exact ⟨by omega, fun hh => by have := hfz.lt hh; omega, by omega⟩ | exact ⟨by omega, by assumption, by omega⟩) | (rcases hb with hb | hb <;> (subst hb; first | exact ⟨by omega, fun hh => by have := hfz.lt hh; omega, by omega⟩ | exact ⟨by omega, by assumption, by omega⟩))))
          replace k12 := x13.blk.full (by first | (rw [hz12]; rfl) | (rw [List.size_toArray, wL_len, wL_len]))
          replace U := U.st x13 (.inr f12)
          refine l_nil ?_
          refine hK10 _ _ ?_
          refine fg4 0 2 3 4 (gS rfl (gS rfl (gS rfl (gS rfl (gS rfl (gS rfl g0)))))) (gS rfl (gS rfl (gS rfl (gS rfl (gS rfl g0))))) (gS rfl (gS rfl (gS rfl (gS rfl g0)))) g0 (fun g => ?_)
          refine c_seq (fun K14 hK14 => ?_)
          exact (by
            refine c_region ?_
            refine l_step (y_moveV (et (gS rfl (gS rfl (gS rfl g0))) rfl)) ?_
            refine l_step (y_moveV (et (gS rfl (gS rfl (gS rfl g0))) rfl)) ?_
            refine l_eff (e_callV cal_264 (aC (et (gS rfl g0) rfl) (aC (et g0 rfl) (aC (v := .int .i64 ((2 : Nat) : Int)) rfl aN))) (m_arg hX.ex hs hp (by first | exact hpf | rfl) _ (by decide))) (fun v15 w15 h15 => ?_)
            obtain ⟨rfl, u15⟩ := h15
            replace k8 := k8.up u15
            replace k12 := k12.up u15
            replace hX := hX.up u15
            replace U := U.tr u15
            refine l_eff (e_alloc zr_65) (fun v16 w16 h16 => ?_)
            obtain ⟨b16, rfl, n16⟩ := h16
            have d8_16 : b8 < b16 := Nat.lt_of_lt_of_le k8.lt n16.fresh
            have d12_16 : b12 < b16 := Nat.lt_of_lt_of_le k12.lt n16.fresh
            have f16 : w.heap.size ≤ b16 := Nat.le_trans U.size n16.fresh
            replace k8 := k8.up n16.up
            replace k12 := k12.up n16.up
            replace hX := hX.up n16.up
            replace U := U.tr n16.up
            have k16 := n16.blk
            obtain ⟨zs16, hz16, k16⟩ : ∃ cs : Array Value, cs.size = 4 ∧ Blk w16 b16 cs := ⟨_, rfl, k16⟩
            have nc16 : col b16 = 0 := hnw _ f16
            refine l_effN (e_store sz_65 (et g0 rfl) (cellsV (et (gS rfl g0) rfl) rfl) rfl (by exact one_uL _) k16 (by (first | (rw [hz16]; exact Nat.le_refl _) | (rw [List.size_toArray, wL_len]; exact Nat.le_refl _)))) (fun v17 w17 h17 => ?_)
            obtain ⟨rfl, x17⟩ := h17
            replace k8 := k8.ch x17.ch (by omega)
            replace k12 := k12.ch x17.ch (by omega)
            replace hX := hX.ch x17.ch (by first | omega | (intro b hb; first | (subst hb; first | exact ⟨by omega, fun hh => by have := hfz.lt hh; omega, by omega⟩ | exact ⟨by omega, by assumption, by omega⟩) | (rcases hb with hb | hb <;> (subst hb; first | exact ⟨by omega, fun hh => by have := hfz.lt hh; omega, by omega⟩ | exact ⟨by omega, by assumption, by omega⟩))))
            replace k16 := x17.blk.full (by first | (rw [hz16]; rfl) | (rw [List.size_toArray, wL_len, wL_len]))
            replace U := U.st x17 (.inr f16)
            refine l_nil ?_
            refine hK14 _ _ ?_
            refine fg5 0 2 3 4 5 (gS rfl (gS rfl (gS rfl (gS rfl (gS rfl (gS rfl (gS rfl g0))))))) (gS rfl (gS rfl (gS rfl (gS rfl (gS rfl (gS rfl g0)))))) (gS rfl (gS rfl (gS rfl (gS rfl (gS rfl g0))))) (gS rfl (gS rfl (gS rfl (gS rfl g0)))) g0 (fun g => ?_)
            refine c_seq (fun K18 hK18 => ?_)
            exact (by
              refine c_region ?_
              refine l_step y_assignC ?_
              refine l_nil ?_
              refine hK18 _ _ ?_
              refine c_seq (fun K19 hK19 => ?_)
              exact (by
                refine c_region ?_
                refine l_step y_assignC ?_
                refine l_nil ?_
                refine hK19 _ _ ?_
                refine c_seq (fun K20 hK20 => ?_)
                exact (by
                  refine c_region ?_
                  refine l_step (y_moveV (et (gS rfl (gS rfl (gS rfl (gS rfl (gS rfl (gS rfl g0)))))) rfl)) ?_
                  refine l_eff (e_callV cal_108 (aC (et g0 rfl) aN) (m_opcode hX.ex hs hp)) (fun v21 w21 h21 => ?_)
                  obtain ⟨rfl, u21⟩ := h21
                  replace k8 := k8.up u21
                  replace k12 := k12.up u21
                  replace k16 := k16.up u21
                  replace hX := hX.up u21
                  replace U := U.tr u21
                  refine l_step (y_assignV (et g0 rfl)) ?_
                  refine l_nil ?_
                  refine hK20 _ _ ?_
                  refine fg8 0 2 3 4 5 6 7 8 (gS rfl (gS rfl (gS rfl (gS rfl (gS rfl (gS rfl (gS rfl (gS rfl (gS rfl g0))))))))) (gS rfl (gS rfl (gS rfl (gS rfl (gS rfl (gS rfl (gS rfl (gS rfl g0)))))))) (gS rfl (gS rfl (gS rfl (gS rfl (gS rfl (gS rfl (gS rfl g0))))))) (gS rfl (gS rfl (gS rfl (gS rfl (gS rfl (gS rfl g0)))))) (gS rfl (gS rfl (gS rfl (gS rfl (gS rfl g0))))) (gS rfl (gS rfl (gS rfl (gS rfl g0)))) (gS rfl (gS rfl (gS rfl g0))) g0 (fun g => ?_)
                  refine c_seq (fun K22 hK22 => ?_)
                  refine c_seq (fun K23 hK23 => ?_)
                  exact (by
                    refine c_region ?_
                    refine l_step (y_moveV (et g0 rfl)) ?_
                    refine l_nil ?_
                    refine hK23 _ _ ?_
                    refine c_block (fun Q24 hQ24 => ?_)
                    refine c_seq (fun K25 hK25 => ?_)
                    exact (by
                      refine c_region ?_
                      refine l_step (y_eql (et g0 rfl) rfl) ?_
                      refine l_step (y_assignV (et g0 rfl)) ?_
                      refine l_nil ?_
                      refine hK25 _ _ ?_
                      refine fg10 0 2 3 4 5 6 7 8 26 27 (gS rfl (gS rfl (gS rfl (gS rfl (gS rfl (gS rfl (gS rfl (gS rfl (gS rfl (gS rfl g0)))))))))) (gS rfl (gS rfl (gS rfl (gS rfl (gS rfl (gS rfl (gS rfl (gS rfl (gS rfl g0))))))))) (gS rfl (gS rfl (gS rfl (gS rfl (gS rfl (gS rfl (gS rfl (gS rfl g0)))))))) (gS rfl (gS rfl (gS rfl (gS rfl (gS rfl (gS rfl (gS rfl g0))))))) (gS rfl (gS rfl (gS rfl (gS rfl (gS rfl (gS rfl g0)))))) (gS rfl (gS rfl (gS rfl (gS rfl (gS rfl g0))))) (gS rfl (gS rfl (gS rfl (gS rfl g0)))) (gS rfl (gS rfl (gS rfl g0))) (gS rfl (gS rfl g0)) g0 (fun g => ?_)
                      refine c_true (et g0 rfl) (by (exact decide_eq_true (by omega))) ?_
                      exact (by
                        refine c_region ?_
                        refine l_step (y_moveV (et (gS rfl (gS rfl (gS rfl (gS rfl (gS rfl (gS rfl (gS rfl (gS rfl g0)))))))) rfl)) ?_
                        refine l_step (y_nil (et g0 rfl)) ?_
                        refine l_step (y_fld fld_71_13 (et g0 rfl)) ?_
                        refine l_step (y_load1 one_38 (et g0 rfl) (at1 (hX.ex.vl.c1 (hr5 1 _ rfl) (by omega)))) ?_
                        refine l_step (y_assignV (et g0 rfl)) ?_
                        refine l_nil ?_
                        refine hQ24 _ _ _ (in_normal ?_)
                        refine hK22 _ _ ?_
                        refine fg8 0 2 3 4 5 6 7 8 (gS rfl (gS rfl (gS rfl (gS rfl (gS rfl (gS rfl (gS rfl (gS rfl (gS rfl (gS rfl (gS rfl (gS rfl (gS rfl (gS rfl g0)))))))))))))) (gS rfl (gS rfl (gS rfl (gS rfl (gS rfl (gS rfl (gS rfl (gS rfl (gS rfl (gS rfl (gS rfl (gS rfl (gS rfl g0))))))))))))) (gS rfl (gS rfl (gS rfl (gS rfl (gS rfl (gS rfl (gS rfl (gS rfl (gS rfl (gS rfl (gS rfl (gS rfl g0)))))))))))) (gS rfl (gS rfl (gS rfl (gS rfl (gS rfl (gS rfl (gS rfl (gS rfl (gS rfl (gS rfl (gS rfl g0))))))))))) (gS rfl (gS rfl (gS rfl (gS rfl (gS rfl (gS rfl (gS rfl (gS rfl (gS rfl (gS rfl g0)))))))))) (gS rfl (gS rfl (gS rfl (gS rfl (gS rfl (gS rfl (gS rfl (gS rfl (gS rfl g0))))))))) g0 (gS rfl (gS rfl (gS rfl (gS rfl (gS rfl (gS rfl (gS rfl g0))))))) (fun g => ?_)
                        refine c_seq (fun K27 hK27 => ?_)
                        exact (by
                          refine c_region ?_
                          refine l_step y_assignC ?_
                          refine l_nil ?_
                          refine hK27 _ _ ?_
                          refine c_seq (fun K28 hK28 => ?_)
                          refine c_seq (fun K29 hK29 => ?_)
                          exact (by
                            refine c_region ?_
                            refine l_step (y_moveV (et (gS rfl g0) rfl)) ?_
                            refine l_step (y_eql (et g0 rfl) rfl) ?_
                            refine l_nil ?_
                            refine hK29 _ _ ?_
                            refine fg9 0 2 3 4 5 6 7 10 67 (gS rfl (gS rfl (gS rfl (gS rfl (gS rfl (gS rfl (gS rfl (gS rfl (gS rfl (gS rfl g0)))))))))) (gS rfl (gS rfl (gS rfl (gS rfl (gS rfl (gS rfl (gS rfl (gS rfl (gS rfl g0))))))))) (gS rfl (gS rfl (gS rfl (gS rfl (gS rfl (gS rfl (gS rfl (gS rfl g0)))))))) (gS rfl (gS rfl (gS rfl (gS rfl (gS rfl (gS rfl (gS rfl g0))))))) (gS rfl (gS rfl (gS rfl (gS rfl (gS rfl (gS rfl g0)))))) (gS rfl (gS rfl (gS rfl (gS rfl (gS rfl g0))))) (gS rfl (gS rfl (gS rfl (gS rfl g0)))) (gS rfl (gS rfl g0)) g0 (fun g => ?_)
                            refine c_false (et g0 rfl) (by (exact decide_eq_false (by omega))) ?_
                            refine c_seq (fun K31 hK31 => ?_)
                            exact (by
                              refine c_region ?_
                              refine l_step (y_loadB agg_65 sz_65 (et (gS rfl (gS rfl (gS rfl (gS rfl g0)))) rfl) rfl (at1B k16)) ?_
                              refine l_eff (e_callV cal_78 (aC (et g0 rfl) aN) (isZero_spec _ _ (argN_lt hB _))) (fun v32 w32 h32 => ?_)
                              obtain ⟨rfl, u32⟩ := h32
                              replace k8 := k8.up u32
                              replace k12 := k12.up u32
                              replace k16 := k16.up u32
                              replace hX := hX.up u32
                              replace U := U.tr u32
                              refine l_step (y_not (et g0 rfl)) ?_
                              refine l_nil ?_
                              refine hK31 _ _ ?_
                              refine fg9 0 2 3 4 5 6 7 10 84 (gS rfl (gS rfl (gS rfl (gS rfl (gS rfl (gS rfl (gS rfl (gS rfl (gS rfl (gS rfl (gS rfl g0))))))))))) (gS rfl (gS rfl (gS rfl (gS rfl (gS rfl (gS rfl (gS rfl (gS rfl (gS rfl (gS rfl g0)))))))))) (gS rfl (gS rfl (gS rfl (gS rfl (gS rfl (gS rfl (gS rfl (gS rfl (gS rfl g0))))))))) (gS rfl (gS rfl (gS rfl (gS rfl (gS rfl (gS rfl (gS rfl (gS rfl g0)))))))) (gS rfl (gS rfl (gS rfl (gS rfl (gS rfl (gS rfl (gS rfl g0))))))) (gS rfl (gS rfl (gS rfl (gS rfl (gS rfl (gS rfl g0)))))) (gS rfl (gS rfl (gS rfl (gS rfl (gS rfl g0))))) (gS rfl (gS rfl (gS rfl (gS rfl g0)))) g0 (fun g => ?_)
                              refine c_cond (et g0 rfl) (fun cB8 => ?_) (fun cB8 => ?_)
                              · skip
                                
                                have y0 : argN f.stack 2 ≠ 0 := by simpa using cB8
                                have hr8 := hr y0
                                exact (by
                                  refine c_draw (SX _ bc) 12 [(0, true), (1, true), (2, true), (3, true), (5, true), (6, true), (8, true), (4, false), (7, false), (9, false), (10, false), (11, true)] (by kernel_rfl) (fun w34 hu => ⟨SX.refl (hX.up hu), ?_⟩)
                                  replace k8 := k8.up hu
                                  replace k12 := k12.up hu
                                  replace k16 := k16.up hu
                                  replace hX := hX.up hu
                                  replace U := U.tr hu
                                  have SU := SX.refl hX
                                  have cq := cq_refl hX
                                  have hX_s := hX
                                  have k8_s := k8
                                  have k12_s := k12
                                  have k16_s := k16
                                  refine p_step (by exact rfl) (y_moveV (et (gS rfl (gS rfl (gS rfl (gS rfl (gS rfl (gS rfl (gS rfl (gS rfl g0)))))))) rfl)) ?_
                                  refine p_step (by exact rfl) (y_nil (et g0 rfl)) ?_
                                  refine p_step (by exact rfl) (y_fld fld_75_1 (et g0 rfl)) ?_
                                  refine p_step (by exact rfl) (y_loadB agg_65 sz_65 (et (gS rfl (gS rfl (gS rfl (gS rfl (gS rfl (gS rfl (gS rfl (gS rfl (gS rfl g0))))))))) rfl) rfl (atXB k8_s (by omega))) ?_
                                  refine p_step (by exact rfl) (y_moveV (et (gS rfl (gS rfl (gS rfl (gS rfl (gS rfl (gS rfl g0)))))) rfl)) ?_
                                  refine p_step (by exact rfl) (y_loadB agg_65 sz_65 (et (gS rfl (gS rfl (gS rfl (gS rfl (gS rfl (gS rfl (gS rfl (gS rfl (gS rfl (gS rfl g0)))))))))) rfl) rfl (atXB k12_s (by omega))) ?_
                                  refine p_step (by exact rfl) (y_loadB agg_65 sz_65 (et (gS rfl (gS rfl (gS rfl (gS rfl (gS rfl (gS rfl (gS rfl (gS rfl (gS rfl (gS rfl g0)))))))))) rfl) rfl (atXB k16_s (by omega))) ?_
                                  refine p_eff (by exact rfl) (e_callV cal_299 (aC (et (gS rfl (gS rfl (gS rfl g0))) rfl) aN) (m_small _ _ (by omega))) (fun v35 w35 h35 => ?_)
                                  obtain ⟨rfl, u35⟩ := h35
                                  replace k8 := k8.up u35
                                  replace k12 := k12.up u35
                                  replace k16 := k16.up u35
                                  replace hX := hX.up u35
                                  replace U := U.tr u35
                                  refine ⟨.inr (SU.tr u35), ?_⟩
                                  replace SU := SU.tr u35
                                  refine p_eff (by exact rfl) (e_callV cal_297 (aC (et (gS rfl (gS rfl g0)) rfl) aN) (mach_source _ _ (argN_lt hB _))) (fun v36 w36 h36 => ?_)
                                  obtain ⟨rfl, u36⟩ := h36
                                  replace k8 := k8.up u36
                                  replace k12 := k12.up u36
                                  replace k16 := k16.up u36
                                  replace hX := hX.up u36
                                  replace U := U.tr u36
                                  refine ⟨.inr (SU.tr u36), ?_⟩
                                  replace SU := SU.tr u36
                                  exact (by
                                    refine p_eff (by exact rfl) (e_callV cal_299 (aC (et (gS rfl (gS rfl g0)) rfl) aN) (m_small _ _ (by omega))) (fun v37 w37 h37 => ?_)
                                    obtain ⟨rfl, u37⟩ := h37
                                    replace k8 := k8.up u37
                                    replace k12 := k12.up u37
                                    replace k16 := k16.up u37
                                    replace hX := hX.up u37
                                    replace U := U.tr u37
                                    refine ⟨.inr (SU.tr u37), ?_⟩
                                    replace SU := SU.tr u37
                                    refine p_eff (by exact rfl) (e_callV cal_258 (aC (et (gS rfl (gS rfl (gS rfl (gS rfl (gS rfl (gS rfl (gS rfl g0))))))) rfl) (aC (et (gS rfl (gS rfl g0)) rfl) (aC (et (gS rfl (gS rfl (gS rfl (gS rfl (gS rfl g0))))) rfl) (aC (et (gS rfl g0) rfl) (aC (et g0 rfl) aN))))) (hX.ex.mWr hms _ _ _ (by omega) (by omega) (srcN_lt _) hinp (by omega))) (fun v38 w38 h38 => ?_)
                                    obtain ⟨rfl, m38, z38⟩ := h38
                                    replace k8 := k8.ch z38 (by intro hm; (have e0 := hm); omega)
                                    replace k12 := k12.ch z38 (by intro hm; (have e0 := hm); omega)
                                    replace k16 := k16.ch z38 (by intro hm; (have e0 := hm); omega)
                                    replace hX := hX.mem z38 (fun b hb => hb) m38
                                    replace U := U.cc z38 (by intro b hb; exact .inl trivial)
                                    have cq9 := SU.ch.size
                                    replace SU := SU.xc z38 (hX.ex.vl.c1 hX.ex.lx.pS rfl) (by intro b hlt hb; have h9 := cq b hlt; have e0 := hb; first | omega | (dsimp only at e0; omega))
                                    refine ⟨.inr SU, ?_⟩
                                    refine p_step (by exact rfl) (y_assignV (et g0 rfl)) ?_
                                    refine p_nil ?_
                                    refine hK28 _ _ ?_
                                    refine fg4 0 2 6 10 (gS rfl (gS rfl (gS rfl (gS rfl (gS rfl (gS rfl (gS rfl (gS rfl (gS rfl (gS rfl (gS rfl (gS rfl (gS rfl (gS rfl (gS rfl (gS rfl (gS rfl (gS rfl (gS rfl (gS rfl g0)))))))))))))))))))) (gS rfl (gS rfl (gS rfl (gS rfl (gS rfl (gS rfl (gS rfl (gS rfl (gS rfl (gS rfl (gS rfl (gS rfl (gS rfl (gS rfl (gS rfl (gS rfl (gS rfl (gS rfl (gS rfl g0))))))))))))))))))) (gS rfl (gS rfl (gS rfl (gS rfl (gS rfl (gS rfl (gS rfl (gS rfl (gS rfl (gS rfl (gS rfl (gS rfl (gS rfl (gS rfl (gS rfl g0))))))))))))))) g0 (fun g => ?_)
                                    refine c_seq (fun K39 hK39 => ?_)
                                    refine c_seq (fun K40 hK40 => ?_)
                                    exact (by
                                      refine c_region ?_
                                      refine l_step (y_moveV (et g0 rfl)) ?_
                                      refine l_step (y_not (et g0 rfl)) ?_
                                      refine l_nil ?_
                                      refine hK40 _ _ ?_
                                      refine fg4 0 2 6 97 (gS rfl (gS rfl (gS rfl (gS rfl (gS rfl g0))))) (gS rfl (gS rfl (gS rfl (gS rfl g0)))) (gS rfl (gS rfl (gS rfl g0))) g0 (fun g => ?_)
                                      refine c_false (et g0 rfl) (by rfl) ?_
                                      refine c_skip ?_
                                      refine hK39 _ _ ?_
                                      refine fg3 0 2 6 (gS rfl (gS rfl (gS rfl g0))) (gS rfl (gS rfl g0)) (gS rfl g0) (fun g => ?_)
                                      exact (by
                                        refine c_region ?_
                                        refine l_step (y_moveV (et (gS rfl (gS rfl g0)) rfl)) ?_
                                        refine l_step (y_moveV (et (gS rfl (gS rfl g0)) rfl)) ?_
                                        refine l_step (y_moveV (et (gS rfl (gS rfl g0)) rfl)) ?_
                                        refine l_step (y_bld bN bld65_z) ?_
                                        refine l_eff (e_callV cal_259 (aC (et (gS rfl (gS rfl (gS rfl g0))) rfl) (aC (et (gS rfl (gS rfl g0)) rfl) (aC (et (gS rfl g0) rfl) (aC rfl (aC (et g0 rfl) (aC (v := .int .u16 ((1 : Nat) : Int)) rfl aN)))))) (m_settle0 hX.ex hs hp (by first | exact hpf | rfl) 3 0 1 (by omega) (by decide) (by omega))) (fun v42 w42 h42 => ?_)
                                        obtain ⟨rfl, cs42, y42⟩ := h42
                                        replace k8 := k8.ch y42.et.go.ch (by intro hm; (have e0 := hm); omega)
                                        replace k12 := k12.ch y42.et.go.ch (by intro hm; (have e0 := hm); omega)
                                        replace k16 := k16.ch y42.et.go.ch (by intro hm; (have e0 := hm); omega)
                                        replace hX := hX.trans y42
                                        replace U := U.cc y42.et.go.ch (by intro b hb; exact .inl trivial)
                                        refine l_nil ?_
                                        refine end0 rfl ?_
                                        rw [cut_src (by omega)] at hX
                                        have e9 : cpN m (argN f.stack 0) f.input (argN f.stack 1) (argN f.stack 2) = wrN m (argN f.stack 0) (cutN f.input (argN f.stack 1) (argN f.stack 2)) := if_neg y0
                                        exact ⟨rfl, _, by rw [e9]; exact hX⟩))))
                              · skip
                                
                                have y0 : argN f.stack 2 = 0 := by simpa using cB8
                                refine c_skip ?_
                                refine hK28 _ _ ?_
                                refine fg4 0 2 6 10 (gS rfl (gS rfl (gS rfl (gS rfl (gS rfl (gS rfl (gS rfl (gS rfl g0)))))))) (gS rfl (gS rfl (gS rfl (gS rfl (gS rfl (gS rfl (gS rfl g0))))))) (gS rfl (gS rfl (gS rfl g0))) (gS rfl g0) (fun g => ?_)
                                refine c_seq (fun K43 hK43 => ?_)
                                refine c_seq (fun K44 hK44 => ?_)
                                exact (by
                                  refine c_region ?_
                                  refine l_step (y_moveV (et g0 rfl)) ?_
                                  refine l_step (y_not (et g0 rfl)) ?_
                                  refine l_nil ?_
                                  refine hK44 _ _ ?_
                                  refine fg4 0 2 6 97 (gS rfl (gS rfl (gS rfl (gS rfl (gS rfl g0))))) (gS rfl (gS rfl (gS rfl (gS rfl g0)))) (gS rfl (gS rfl (gS rfl g0))) g0 (fun g => ?_)
                                  refine c_false (et g0 rfl) rfl ?_
                                  refine c_skip ?_
                                  refine hK43 _ _ ?_
                                  refine fg3 0 2 6 (gS rfl (gS rfl (gS rfl g0))) (gS rfl (gS rfl g0)) (gS rfl g0) (fun g => ?_)
                                  exact (by
                                    refine c_region ?_
                                    refine l_step (y_moveV (et (gS rfl (gS rfl g0)) rfl)) ?_
                                    refine l_step (y_moveV (et (gS rfl (gS rfl g0)) rfl)) ?_
                                    refine l_step (y_moveV (et (gS rfl (gS rfl g0)) rfl)) ?_
                                    refine l_step (y_bld bN bld65_z) ?_
                                    refine l_eff (e_callV cal_259 (aC (et (gS rfl (gS rfl (gS rfl g0))) rfl) (aC (et (gS rfl (gS rfl g0)) rfl) (aC (et (gS rfl g0) rfl) (aC rfl (aC (et g0 rfl) (aC (v := .int .u16 ((1 : Nat) : Int)) rfl aN)))))) (m_settle0 hX.ex hs hp (by first | exact hpf | rfl) 3 0 1 (by omega) (by decide) (by omega))) (fun v46 w46 h46 => ?_)
                                    obtain ⟨rfl, cs46, y46⟩ := h46
                                    replace k8 := k8.ch y46.et.go.ch (by intro hm; (have e0 := hm); omega)
                                    replace k12 := k12.ch y46.et.go.ch (by intro hm; (have e0 := hm); omega)
                                    replace k16 := k16.ch y46.et.go.ch (by intro hm; (have e0 := hm); omega)
                                    replace hX := hX.trans y46
                                    replace U := U.cc y46.et.go.ch (by intro b hb; exact .inl trivial)
                                    refine l_nil ?_
                                    refine end0 rfl ?_
                                    have e9 : cpN m (argN f.stack 0) f.input (argN f.stack 1) (argN f.stack 2) = m := if_pos y0
                                    rw [hms] at hX
                                    exact ⟨rfl, _, by rw [e9]; exact hX⟩))))))))))))))))
theorem m_opCopy57 {w : World} {H : Store} {col : Nat → Nat} {bc : Nat} {cs : Array Value} {V : EV} {s : YSt} {sn : List Nat} {sv : List AW} {ms : List (List Nat)} {c : Nat} {low : List YF} {f : YF} (hE : EX w H col bc cs V s sn sv ms c) (hs : s.frames = low ++ [f]) (hp : s.phase = 1) {lo : List (List Nat)} {m : List Nat} (hms : ms = lo ++ [m]) (hq : opcN f = 57) (hpc9 : f.pc < 512) (htk9 : 3 ≤ f.stack.length) (hrl9 : s.ret.length ≤ 717280) (hr : argN f.stack 2 ≠ 0 → argN f.stack 0 + argN f.stack 2 ≤ m.length) :
    Ret 195 [.pointer (some ⟨bc, 0, none⟩)] w (fun v w' => v = .tuple #[] ∧ ∃ cs', XT w H col w' H col bc cs' V { s with frames := low ++ [setF f 3 false 0 1] } sn sv (lo ++ [cpN m (argN f.stack 0) f.code (argN f.stack 1) (argN f.stack 2)]) c) := by
  obtain ⟨n9, hn9, hR⟩ := hE.topF hs
  have hB := hE.fbT hs
  have h6 := hE.six hs
  have htop := hE.cTop hs
  have hphs := hE.cPh hp
  have hbp := hB.pc
  have hbs := hB.stk
  have hbg := hB.gas
  have hbc9 := hB.code
  have hnw := hE.vl.new
  have hfz := hE.vl.fz
  have hcC := hE.vl.colC
  have hbc0 := hE.vl.kC.lt
  have hX := XT.refl hE
  have hmx := hE.memMx hms
  obtain ⟨ca9, cc9, ia9, ic9, hr5, hcode, hinp⟩ := hR.r5
  obtain ⟨ra9, rc9, hret9, hrb9⟩ := hE.lx.ret
  have hbi9 := hB.input
  refine enter (n := 105) Hvaa.func195 rfl rfl (Nat.le_of_ble_eq_true rfl) ?_
  have U : Ch (fun _ => True) w w := Ch.refl _ w
  refine c_seq (fun K1 hK1 => ?_)
  exact (by
    refine c_region ?_
    refine l_step (y_moveV (et g0 rfl)) ?_
    refine l_eff (e_callV cal_183 (aC (et g0 rfl) aN) (m_running hX.ex hs hp)) (fun v2 w2 h2 => ?_)
    obtain ⟨rfl, u2⟩ := h2
    replace hX := hX.up u2
    replace U := U.tr u2
    refine l_step (y_assignV (et g0 rfl)) ?_
    refine l_nil ?_
    refine hK1 _ _ ?_
    refine fg2 0 2 (gS rfl (gS rfl (gS rfl g0))) g0 (fun g => ?_)
    refine c_seq (fun K3 hK3 => ?_)
    refine c_seq (fun K4 hK4 => ?_)
    exact (by
      refine c_region ?_
      refine l_step (y_moveV (et g0 rfl)) ?_
      refine l_step (y_eqlNil Hvaa.underlying276 (et g0 rfl) rfl) ?_
      refine l_nil ?_
      refine hK4 _ _ ?_
      refine fg3 0 2 14 (gS rfl (gS rfl (gS rfl g0))) (gS rfl (gS rfl g0)) g0 (fun g => ?_)
      refine c_false (et g0 rfl) rfl ?_
      refine c_skip ?_
      refine hK3 _ _ ?_
      refine fg2 0 2 (gS rfl (gS rfl g0)) (gS rfl g0) (fun g => ?_)
      refine c_seq (fun K6 hK6 => ?_)
      exact (by
        refine c_region ?_
        refine l_step (y_moveV (et (gS rfl g0) rfl)) ?_
        refine l_step (y_moveV (et (gS rfl g0) rfl)) ?_
        refine l_eff (e_callV cal_264 (aC (et (gS rfl g0) rfl) (aC (et g0 rfl) (aC (v := .int .i64 ((0 : Nat) : Int)) rfl aN))) (m_arg hX.ex hs hp (by first | exact hpf | rfl) _ (by decide))) (fun v7 w7 h7 => ?_)
        obtain ⟨rfl, u7⟩ := h7
        replace hX := hX.up u7
        replace U := U.tr u7
        refine l_eff (e_alloc zr_65) (fun v8 w8 h8 => ?_)
        obtain ⟨b8, rfl, n8⟩ := h8
        have f8 : w.heap.size ≤ b8 := Nat.le_trans U.size n8.fresh
        replace hX := hX.up n8.up
        replace U := U.tr n8.up
        have k8 := n8.blk
        obtain ⟨zs8, hz8, k8⟩ : ∃ cs : Array Value, cs.size = 4 ∧ Blk w8 b8 cs := ⟨_, rfl, k8⟩
        have nc8 : col b8 = 0 := hnw _ f8
        refine l_effN (e_store sz_65 (et g0 rfl) (cellsV (et (gS rfl g0) rfl) rfl) rfl (by exact one_uL _) k8 (by (first | (rw [hz8]; exact Nat.le_refl _) | (rw [List.size_toArray, wL_len]; exact Nat.le_refl _)))) (fun v9 w9 h9 => ?_)
        obtain ⟨rfl, x9⟩ := h9
        replace hX := hX.ch x9.ch (by first | omega | (intro b hb; first | (subst hb; first | exact ⟨by omega, fun hh => by have := hfz.lt hh; omega, by omega⟩ | exact ⟨by omega, by assumption, by omega⟩) | (rcases hb with hb | hb <;> (subst hb; first | exact ⟨by omega, fun hh => by have := hfz.lt hh; omega, by omega⟩ | exact ⟨by omega, by assumption, by omega⟩))))
        replace k8 := x9.blk.full (by first | (rw [hz8]; rfl) | (rw [List.size_toArray, wL_len, wL_len]))
        replace U := U.st x9 (.inr f8)
        refine l_nil ?_
        refine hK6 _ _ ?_
        refine fg3 0 2 3 (gS rfl (gS rfl (gS rfl (gS rfl (gS rfl g0))))) (gS rfl (gS rfl (gS rfl (gS rfl g0)))) g0 (fun g => ?_)
        refine c_seq (fun K10 hK10 => ?_)
        exact (by
          refine c_region ?_
          refine l_step (y_moveV (et (gS rfl (gS rfl g0)) rfl)) ?_
          refine l_step (y_moveV (et (gS rfl (gS rfl g0)) rfl)) ?_
          refine l_eff (e_callV cal_264 (aC (et (gS rfl g0) rfl) (aC (et g0 rfl) (aC (v := .int .i64 ((1 : Nat) : Int)) rfl aN))) (m_arg hX.ex hs hp (by first | exact hpf | rfl) _ (by decide))) (fun v11 w11 h11 => ?_)
          obtain ⟨rfl, u11⟩ := h11
          replace k8 := k8.up u11
          replace hX := hX.up u11
          replace U := U.tr u11
          refine l_eff (e_alloc zr_65) (fun v12 w12 h12 => ?_)
          obtain ⟨b12, rfl, n12⟩ := h12
          have d8_12 : b8 < b12 := Nat.lt_of_lt_of_le k8.lt n12.fresh
          have f12 : w.heap.size ≤ b12 := Nat.le_trans U.size n12.fresh
          replace k8 := k8.up n12.up
          replace hX := hX.up n12.up
          replace U := U.tr n12.up
          have k12 := n12.blk
          obtain ⟨zs12, hz12, k12⟩ : ∃ cs : Array Value, cs.size = 4 ∧ Blk w12 b12 cs := ⟨_, rfl, k12⟩
          have nc12 : col b12 = 0 := hnw _ f12
          refine l_effN (e_store sz_65 (et g0 rfl) (cellsV (et (gS rfl g0) rfl) rfl) rfl (by exact one_uL _) k12 (by (first | (rw [hz12]; exact Nat.le_refl _) | (rw [List.size_toArray, wL_len]; exact Nat.le_refl _)))) (fun v13 w13 h13 => ?_)
          obtain ⟨rfl, x13⟩ := h13
          replace k8 := k8.ch x13.ch (by omega)
          replace hX := hX.ch x13.ch (by first | omega | (intro b hb; first | (subst hb; first | exact ⟨by omega, fun hh => by have := hfz.lt hh; omega, by omega⟩ | exact ⟨by omega, by assumption, by omega⟩) | (rcases hb with hb | hb <;> (subst hb; first | exact ⟨by omega, fun hh => by have := hfz.lt hh; omega, by omega⟩ | exact ⟨by omega, by assumption, by omega⟩))))
          replace k12 := x13.blk.full (by first | (rw [hz12]; rfl) | (rw [List.size_toArray, wL_len, wL_len]))
          replace U := U.st x13 (.inr f12)
          refine l_nil ?_
          refine hK10 _ _ ?_
          refine fg4 0 2 3 4 (gS rfl (gS rfl (gS rfl (gS rfl (gS rfl (gS rfl g0)))))) (gS rfl (gS rfl (gS rfl (gS rfl (gS rfl g0))))) (gS rfl (gS rfl (gS rfl (gS rfl g0)))) g0 (fun g => ?_)
          refine c_seq (fun K14 hK14 => ?_)
          exact (by
            refine c_region ?_
            refine l_step (y_moveV (et (gS rfl (gS rfl (gS rfl g0))) rfl)) ?_
            refine l_step (y_moveV (et (gS rfl (gS rfl (gS rfl g0))) rfl)) ?_
            refine l_eff (e_callV cal_264 (aC (et (gS rfl g0) rfl) (aC (et g0 rfl) (aC (v := .int .i64 ((2 : Nat) : Int)) rfl aN))) (m_arg hX.ex hs hp (by first | exact hpf | rfl) _ (by decide))) (fun v15 w15 h15 => ?_)
            obtain ⟨rfl, u15⟩ := h15
            replace k8 := k8.up u15
            replace k12 := k12.up u15
            replace hX := hX.up u15
            replace U := U.tr u15
            refine l_eff (e_alloc zr_65) (fun v16 w16 h16 => ?_)
            obtain ⟨b16, rfl, n16⟩ := h16
            have d8_16 : b8 < b16 := Nat.lt_of_lt_of_le k8.lt n16.fresh
            have d12_16 : b12 < b16 := Nat.lt_of_lt_of_le k12.lt n16.fresh
            have f16 : w.heap.size ≤ b16 := Nat.le_trans U.size n16.fresh
            replace k8 := k8.up n16.up
            replace k12 := k12.up n16.up
            replace hX := hX.up n16.up
            replace U := U.tr n16.up
            have k16 := n16.blk
            obtain ⟨zs16, hz16, k16⟩ : ∃ cs : Array Value, cs.size = 4 ∧ Blk w16 b16 cs := ⟨_, rfl, k16⟩
            have nc16 : col b16 = 0 := hnw _ f16
            refine l_effN (e_store sz_65 (et g0 rfl) (cellsV (et (gS rfl g0) rfl) rfl) rfl (by exact one_uL _) k16 (by (first | (rw [hz16]; exact Nat.le_refl _) | (rw [List.size_toArray, wL_len]; exact Nat.le_refl _)))) (fun v17 w17 h17 => ?_)
            obtain ⟨rfl, x17⟩ := h17
            replace k8 := k8.ch x17.ch (by omega)
            replace k12 := k12.ch x17.ch (by omega)
            replace hX := hX.ch x17.ch (by first | omega | (intro b hb; first | (subst hb; first | exact ⟨by omega, fun hh => by have := hfz.lt hh; omega, by omega⟩ | exact ⟨by omega, by assumption, by omega⟩) | (rcases hb with hb | hb <;> (subst hb; first | exact ⟨by omega, fun hh => by have := hfz.lt hh; omega, by omega⟩ | exact ⟨by omega, by assumption, by omega⟩))))
            replace k16 := x17.blk.full (by first | (rw [hz16]; rfl) | (rw [List.size_toArray, wL_len, wL_len]))
            replace U := U.st x17 (.inr f16)
            refine l_nil ?_
            refine hK14 _ _ ?_
            refine fg5 0 2 3 4 5 (gS rfl (gS rfl (gS rfl (gS rfl (gS rfl (gS rfl (gS rfl g0))))))) (gS rfl (gS rfl (gS rfl (gS rfl (gS rfl (gS rfl g0)))))) (gS rfl (gS rfl (gS rfl (gS rfl (gS rfl g0))))) (gS rfl (gS rfl (gS rfl (gS rfl g0)))) g0 (fun g => ?_)
            refine c_seq (fun K18 hK18 => ?_)
            exact (by
              refine c_region ?_
              refine l_step y_assignC ?_
              refine l_nil ?_
              refine hK18 _ _ ?_
              refine c_seq (fun K19 hK19 => ?_)
              exact (by
                refine c_region ?_
                refine l_step y_assignC ?_
                refine l_nil ?_
                refine hK19 _ _ ?_
                refine c_seq (fun K20 hK20 => ?_)
                exact (by
                  refine c_region ?_
                  refine l_step (y_moveV (et (gS rfl (gS rfl (gS rfl (gS rfl (gS rfl (gS rfl g0)))))) rfl)) ?_
                  refine l_eff (e_callV cal_108 (aC (et g0 rfl) aN) (m_opcode hX.ex hs hp)) (fun v21 w21 h21 => ?_)
                  obtain ⟨rfl, u21⟩ := h21
                  replace k8 := k8.up u21
                  replace k12 := k12.up u21
                  replace k16 := k16.up u21
                  replace hX := hX.up u21
                  replace U := U.tr u21
                  refine l_step (y_assignV (et g0 rfl)) ?_
                  refine l_nil ?_
                  refine hK20 _ _ ?_
                  refine fg8 0 2 3 4 5 6 7 8 (gS rfl (gS rfl (gS rfl (gS rfl (gS rfl (gS rfl (gS rfl (gS rfl (gS rfl g0))))))))) (gS rfl (gS rfl (gS rfl (gS rfl (gS rfl (gS rfl (gS rfl (gS rfl g0)))))))) (gS rfl (gS rfl (gS rfl (gS rfl (gS rfl (gS rfl (gS rfl g0))))))) (gS rfl (gS rfl (gS rfl (gS rfl (gS rfl (gS rfl g0)))))) (gS rfl (gS rfl (gS rfl (gS rfl (gS rfl g0))))) (gS rfl (gS rfl (gS rfl (gS rfl g0)))) (gS rfl (gS rfl (gS rfl g0))) g0 (fun g => ?_)
                  refine c_seq (fun K22 hK22 => ?_)
                  refine c_seq (fun K23 hK23 => ?_)
                  exact (by
                    refine c_region ?_
                    refine l_step (y_moveV (et g0 rfl)) ?_
                    refine l_nil ?_
                    refine hK23 _ _ ?_
                    refine c_block (fun Q24 hQ24 => ?_)
                    refine c_seq (fun K25 hK25 => ?_)
                    exact (by
                      refine c_region ?_
                      refine l_step (y_eql (et g0 rfl) rfl) ?_
                      refine l_step (y_assignV (et g0 rfl)) ?_
                      refine l_nil ?_
                      refine hK25 _ _ ?_
                      refine fg10 0 2 3 4 5 6 7 8 26 27 (gS rfl (gS rfl (gS rfl (gS rfl (gS rfl (gS rfl (gS rfl (gS rfl (gS rfl (gS rfl g0)))))))))) (gS rfl (gS rfl (gS rfl (gS rfl (gS rfl (gS rfl (gS rfl (gS rfl (gS rfl g0))))))))) (gS rfl (gS rfl (gS rfl (gS rfl (gS rfl (gS rfl (gS rfl (gS rfl g0)))))))) (gS rfl (gS rfl (gS rfl (gS rfl (gS rfl (gS rfl (gS rfl g0))))))) (gS rfl (gS rfl (gS rfl (gS rfl (gS rfl (gS rfl g0)))))) (gS rfl (gS rfl (gS rfl (gS rfl (gS rfl g0))))) (gS rfl (gS rfl (gS rfl (gS rfl g0)))) (gS rfl (gS rfl (gS rfl g0))) (gS rfl (gS rfl g0)) g0 (fun g => ?_)
                      refine c_false (et g0 rfl) (by (exact decide_eq_false (by omega))) ?_
                      refine c_seq (fun K27 hK27 => ?_)
                      exact (by
                        refine c_region ?_
                        refine l_step (y_eql (et (gS rfl g0) rfl) rfl) ?_
                        refine l_step (y_assignV (et g0 rfl)) ?_
                        refine l_nil ?_
                        refine hK27 _ _ ?_
                        refine fg10 0 2 3 4 5 6 7 8 26 33 (gS rfl (gS rfl (gS rfl (gS rfl (gS rfl (gS rfl (gS rfl (gS rfl (gS rfl (gS rfl (gS rfl g0))))))))))) (gS rfl (gS rfl (gS rfl (gS rfl (gS rfl (gS rfl (gS rfl (gS rfl (gS rfl (gS rfl g0)))))))))) (gS rfl (gS rfl (gS rfl (gS rfl (gS rfl (gS rfl (gS rfl (gS rfl (gS rfl g0))))))))) (gS rfl (gS rfl (gS rfl (gS rfl (gS rfl (gS rfl (gS rfl (gS rfl g0)))))))) (gS rfl (gS rfl (gS rfl (gS rfl (gS rfl (gS rfl (gS rfl g0))))))) (gS rfl (gS rfl (gS rfl (gS rfl (gS rfl (gS rfl g0)))))) (gS rfl (gS rfl (gS rfl (gS rfl (gS rfl g0))))) (gS rfl (gS rfl (gS rfl (gS rfl g0)))) (gS rfl (gS rfl (gS rfl g0))) g0 (fun g => ?_)
                        refine c_true (et g0 rfl) (by (exact decide_eq_true (by omega))) ?_
                        exact (by
                          refine c_region ?_
                          refine l_step (y_moveV (et (gS rfl (gS rfl (gS rfl (gS rfl (gS rfl (gS rfl (gS rfl (gS rfl g0)))))))) rfl)) ?_
                          refine l_step (y_nil (et g0 rfl)) ?_
                          refine l_step (y_fld fld_71_12 (et g0 rfl)) ?_
                          refine l_step (y_load1 one_38 (et g0 rfl) (at1 (hX.ex.vl.c1 (hr5 0 _ rfl) (by omega)))) ?_
                          refine l_step (y_assignV (et g0 rfl)) ?_
                          refine l_nil ?_
                          refine hQ24 _ _ _ (in_normal ?_)
                          refine hK22 _ _ ?_
                          refine fg8 0 2 3 4 5 6 7 8 (gS rfl (gS rfl (gS rfl (gS rfl (gS rfl (gS rfl (gS rfl (gS rfl (gS rfl (gS rfl (gS rfl (gS rfl (gS rfl (gS rfl g0)))))))))))))) (gS rfl (gS rfl (gS rfl (gS rfl (gS rfl (gS rfl (gS rfl (gS rfl (gS rfl (gS rfl (gS rfl (gS rfl (gS rfl g0))))))))))))) (gS rfl (gS rfl (gS rfl (gS rfl (gS rfl (gS rfl (gS rfl (gS rfl (gS rfl (gS rfl (gS rfl (gS rfl g0)))))))))))) (gS rfl (gS rfl (gS rfl (gS rfl (gS rfl (gS rfl (gS rfl (gS rfl (gS rfl (gS rfl (gS rfl g0))))))))))) (gS rfl (gS rfl (gS rfl (gS rfl (gS rfl (gS rfl (gS rfl (gS rfl (gS rfl (gS rfl g0)))))))))) (gS rfl (gS rfl (gS rfl (gS rfl (gS rfl (gS rfl (gS rfl (gS rfl (gS rfl g0))))))))) g0 (gS rfl (gS rfl (gS rfl (gS rfl (gS rfl (gS rfl (gS rfl g0))))))) (fun g => ?_)
                          refine c_seq (fun K29 hK29 => ?_)
                          exact (by
                            refine c_region ?_
                            refine l_step y_assignC ?_
                            refine l_nil ?_
                            refine hK29 _ _ ?_
                            refine c_seq (fun K30 hK30 => ?_)
                            refine c_seq (fun K31 hK31 => ?_)
                            exact (by
                              refine c_region ?_
                              refine l_step (y_moveV (et (gS rfl g0) rfl)) ?_
                              refine l_step (y_eql (et g0 rfl) rfl) ?_
                              refine l_nil ?_
                              refine hK31 _ _ ?_
                              refine fg9 0 2 3 4 5 6 7 10 67 (gS rfl (gS rfl (gS rfl (gS rfl (gS rfl (gS rfl (gS rfl (gS rfl (gS rfl (gS rfl g0)))))))))) (gS rfl (gS rfl (gS rfl (gS rfl (gS rfl (gS rfl (gS rfl (gS rfl (gS rfl g0))))))))) (gS rfl (gS rfl (gS rfl (gS rfl (gS rfl (gS rfl (gS rfl (gS rfl g0)))))))) (gS rfl (gS rfl (gS rfl (gS rfl (gS rfl (gS rfl (gS rfl g0))))))) (gS rfl (gS rfl (gS rfl (gS rfl (gS rfl (gS rfl g0)))))) (gS rfl (gS rfl (gS rfl (gS rfl (gS rfl g0))))) (gS rfl (gS rfl (gS rfl (gS rfl g0)))) (gS rfl (gS rfl g0)) g0 (fun g => ?_)
                              refine c_false (et g0 rfl) (by (exact decide_eq_false (by omega))) ?_
                              refine c_seq (fun K33 hK33 => ?_)
                              exact (by
                                refine c_region ?_
                                refine l_step (y_loadB agg_65 sz_65 (et (gS rfl (gS rfl (gS rfl (gS rfl g0)))) rfl) rfl (at1B k16)) ?_
                                refine l_eff (e_callV cal_78 (aC (et g0 rfl) aN) (isZero_spec _ _ (argN_lt hB _))) (fun v34 w34 h34 => ?_)
                                obtain ⟨rfl, u34⟩ := h34
                                replace k8 := k8.up u34
                                replace k12 := k12.up u34
                                replace k16 := k16.up u34
                                replace hX := hX.up u34
                                replace U := U.tr u34
                                refine l_step (y_not (et g0 rfl)) ?_
                                refine l_nil ?_
                                refine hK33 _ _ ?_
                                refine fg9 0 2 3 4 5 6 7 10 84 (gS rfl (gS rfl (gS rfl (gS rfl (gS rfl (gS rfl (gS rfl (gS rfl (gS rfl (gS rfl (gS rfl g0))))))))))) (gS rfl (gS rfl (gS rfl (gS rfl (gS rfl (gS rfl (gS rfl (gS rfl (gS rfl (gS rfl g0)))))))))) (gS rfl (gS rfl (gS rfl (gS rfl (gS rfl (gS rfl (gS rfl (gS rfl (gS rfl g0))))))))) (gS rfl (gS rfl (gS rfl (gS rfl (gS rfl (gS rfl (gS rfl (gS rfl g0)))))))) (gS rfl (gS rfl (gS rfl (gS rfl (gS rfl (gS rfl (gS rfl g0))))))) (gS rfl (gS rfl (gS rfl (gS rfl (gS rfl (gS rfl g0)))))) (gS rfl (gS rfl (gS rfl (gS rfl (gS rfl g0))))) (gS rfl (gS rfl (gS rfl (gS rfl g0)))) g0 (fun g => ?_)
                                refine c_cond (et g0 rfl) (fun cB8 => ?_) (fun cB8 => ?_)
                                · skip
                                  
                                  have y0 : argN f.stack 2 ≠ 0 := by simpa using cB8
                                  have hr8 := hr y0
                                  exact (by
                                    refine c_draw (SX _ bc) 12 [(0, true), (1, true), (2, true), (3, true), (5, true), (6, true), (8, true), (4, false), (7, false), (9, false), (10, false), (11, true)] (by kernel_rfl) (fun w36 hu => ⟨SX.refl (hX.up hu), ?_⟩)
                                    replace k8 := k8.up hu
                                    replace k12 := k12.up hu
                                    replace k16 := k16.up hu
                                    replace hX := hX.up hu
                                    replace U := U.tr hu
                                    have SU := SX.refl hX
                                    have cq := cq_refl hX
                                    have hX_s := hX
                                    have k8_s := k8
                                    have k12_s := k12
                                    have k16_s := k16
                                    refine p_step (by exact rfl) (y_moveV (et (gS rfl (gS rfl (gS rfl (gS rfl (gS rfl (gS rfl (gS rfl (gS rfl g0)))))))) rfl)) ?_
                                    refine p_step (by exact rfl) (y_nil (et g0 rfl)) ?_
                                    refine p_step (by exact rfl) (y_fld fld_75_1 (et g0 rfl)) ?_
                                    refine p_step (by exact rfl) (y_loadB agg_65 sz_65 (et (gS rfl (gS rfl (gS rfl (gS rfl (gS rfl (gS rfl (gS rfl (gS rfl (gS rfl g0))))))))) rfl) rfl (atXB k8_s (by omega))) ?_
                                    refine p_step (by exact rfl) (y_moveV (et (gS rfl (gS rfl (gS rfl (gS rfl (gS rfl (gS rfl g0)))))) rfl)) ?_
                                    refine p_step (by exact rfl) (y_loadB agg_65 sz_65 (et (gS rfl (gS rfl (gS rfl (gS rfl (gS rfl (gS rfl (gS rfl (gS rfl (gS rfl (gS rfl g0)))))))))) rfl) rfl (atXB k12_s (by omega))) ?_
                                    refine p_step (by exact rfl) (y_loadB agg_65 sz_65 (et (gS rfl (gS rfl (gS rfl (gS rfl (gS rfl (gS rfl (gS rfl (gS rfl (gS rfl (gS rfl g0)))))))))) rfl) rfl (atXB k16_s (by omega))) ?_
                                    refine p_eff (by exact rfl) (e_callV cal_299 (aC (et (gS rfl (gS rfl (gS rfl g0))) rfl) aN) (m_small _ _ (by omega))) (fun v37 w37 h37 => ?_)
                                    obtain ⟨rfl, u37⟩ := h37
                                    replace k8 := k8.up u37
                                    replace k12 := k12.up u37
                                    replace k16 := k16.up u37
                                    replace hX := hX.up u37
                                    replace U := U.tr u37
                                    refine ⟨.inr (SU.tr u37), ?_⟩
                                    replace SU := SU.tr u37
                                    refine p_eff (by exact rfl) (e_callV cal_297 (aC (et (gS rfl (gS rfl g0)) rfl) aN) (mach_source _ _ (argN_lt hB _))) (fun v38 w38 h38 => ?_)
                                    obtain ⟨rfl, u38⟩ := h38
                                    replace k8 := k8.up u38
                                    replace k12 := k12.up u38
                                    replace k16 := k16.up u38
                                    replace hX := hX.up u38
                                    replace U := U.tr u38
                                    refine ⟨.inr (SU.tr u38), ?_⟩
                                    replace SU := SU.tr u38
                                    exact (by
                                      refine p_eff (by exact rfl) (e_callV cal_299 (aC (et (gS rfl (gS rfl g0)) rfl) aN) (m_small _ _ (by omega))) (fun v39 w39 h39 => ?_)
                                      obtain ⟨rfl, u39⟩ := h39
                                      replace k8 := k8.up u39
                                      replace k12 := k12.up u39
                                      replace k16 := k16.up u39
                                      replace hX := hX.up u39
                                      replace U := U.tr u39
                                      refine ⟨.inr (SU.tr u39), ?_⟩
                                      replace SU := SU.tr u39
                                      refine p_eff (by exact rfl) (e_callV cal_258 (aC (et (gS rfl (gS rfl (gS rfl (gS rfl (gS rfl (gS rfl (gS rfl g0))))))) rfl) (aC (et (gS rfl (gS rfl g0)) rfl) (aC (et (gS rfl (gS rfl (gS rfl (gS rfl (gS rfl g0))))) rfl) (aC (et (gS rfl g0) rfl) (aC (et g0 rfl) aN))))) (hX.ex.mWr hms _ _ _ (by omega) (by omega) (srcN_lt _) hcode (by omega))) (fun v40 w40 h40 => ?_)
                                      obtain ⟨rfl, m40, z40⟩ := h40
                                      replace k8 := k8.ch z40 (by intro hm; (have e0 := hm); omega)
                                      replace k12 := k12.ch z40 (by intro hm; (have e0 := hm); omega)
                                      replace k16 := k16.ch z40 (by intro hm; (have e0 := hm); omega)
                                      replace hX := hX.mem z40 (fun b hb => hb) m40
                                      replace U := U.cc z40 (by intro b hb; exact .inl trivial)
                                      have cq9 := SU.ch.size
                                      replace SU := SU.xc z40 (hX.ex.vl.c1 hX.ex.lx.pS rfl) (by intro b hlt hb; have h9 := cq b hlt; have e0 := hb; first | omega | (dsimp only at e0; omega))
                                      refine ⟨.inr SU, ?_⟩
                                      refine p_step (by exact rfl) (y_assignV (et g0 rfl)) ?_
                                      refine p_nil ?_
                                      refine hK30 _ _ ?_
                                      refine fg4 0 2 6 10 (gS rfl (gS rfl (gS rfl (gS rfl (gS rfl (gS rfl (gS rfl (gS rfl (gS rfl (gS rfl (gS rfl (gS rfl (gS rfl (gS rfl (gS rfl (gS rfl (gS rfl (gS rfl (gS rfl (gS rfl g0)))))))))))))))))))) (gS rfl (gS rfl (gS rfl (gS rfl (gS rfl (gS rfl (gS rfl (gS rfl (gS rfl (gS rfl (gS rfl (gS rfl (gS rfl (gS rfl (gS rfl (gS rfl (gS rfl (gS rfl (gS rfl g0))))))))))))))))))) (gS rfl (gS rfl (gS rfl (gS rfl (gS rfl (gS rfl (gS rfl (gS rfl (gS rfl (gS rfl (gS rfl (gS rfl (gS rfl (gS rfl (gS rfl g0))))))))))))))) g0 (fun g => ?_)
                                      refine c_seq (fun K41 hK41 => ?_)
                                      refine c_seq (fun K42 hK42 => ?_)
                                      exact (by
                                        refine c_region ?_
                                        refine l_step (y_moveV (et g0 rfl)) ?_
                                        refine l_step (y_not (et g0 rfl)) ?_
                                        refine l_nil ?_
                                        refine hK42 _ _ ?_
                                        refine fg4 0 2 6 97 (gS rfl (gS rfl (gS rfl (gS rfl (gS rfl g0))))) (gS rfl (gS rfl (gS rfl (gS rfl g0)))) (gS rfl (gS rfl (gS rfl g0))) g0 (fun g => ?_)
                                        refine c_false (et g0 rfl) (by rfl) ?_
                                        refine c_skip ?_
                                        refine hK41 _ _ ?_
                                        refine fg3 0 2 6 (gS rfl (gS rfl (gS rfl g0))) (gS rfl (gS rfl g0)) (gS rfl g0) (fun g => ?_)
                                        exact (by
                                          refine c_region ?_
                                          refine l_step (y_moveV (et (gS rfl (gS rfl g0)) rfl)) ?_
                                          refine l_step (y_moveV (et (gS rfl (gS rfl g0)) rfl)) ?_
                                          refine l_step (y_moveV (et (gS rfl (gS rfl g0)) rfl)) ?_
                                          refine l_step (y_bld bN bld65_z) ?_
                                          refine l_eff (e_callV cal_259 (aC (et (gS rfl (gS rfl (gS rfl g0))) rfl) (aC (et (gS rfl (gS rfl g0)) rfl) (aC (et (gS rfl g0) rfl) (aC rfl (aC (et g0 rfl) (aC (v := .int .u16 ((1 : Nat) : Int)) rfl aN)))))) (m_settle0 hX.ex hs hp (by first | exact hpf | rfl) 3 0 1 (by omega) (by decide) (by omega))) (fun v44 w44 h44 => ?_)
                                          obtain ⟨rfl, cs44, y44⟩ := h44
                                          replace k8 := k8.ch y44.et.go.ch (by intro hm; (have e0 := hm); omega)
                                          replace k12 := k12.ch y44.et.go.ch (by intro hm; (have e0 := hm); omega)
                                          replace k16 := k16.ch y44.et.go.ch (by intro hm; (have e0 := hm); omega)
                                          replace hX := hX.trans y44
                                          replace U := U.cc y44.et.go.ch (by intro b hb; exact .inl trivial)
                                          refine l_nil ?_
                                          refine end0 rfl ?_
                                          rw [cut_src (by omega)] at hX
                                          have e9 : cpN m (argN f.stack 0) f.code (argN f.stack 1) (argN f.stack 2) = wrN m (argN f.stack 0) (cutN f.code (argN f.stack 1) (argN f.stack 2)) := if_neg y0
                                          exact ⟨rfl, _, by rw [e9]; exact hX⟩))))
                                · skip
                                  
                                  have y0 : argN f.stack 2 = 0 := by simpa using cB8
                                  refine c_skip ?_
                                  refine hK30 _ _ ?_
                                  refine fg4 0 2 6 10 (gS rfl (gS rfl (gS rfl (gS rfl (gS rfl (gS rfl (gS rfl (gS rfl g0)))))))) (gS rfl (gS rfl (gS rfl (gS rfl (gS rfl (gS rfl (gS rfl g0))))))) (gS rfl (gS rfl (gS rfl g0))) (gS rfl g0) (fun g => ?_)
                                  refine c_seq (fun K45 hK45 => ?_)
                                  refine c_seq (fun K46 hK46 => ?_)
                                  exact (by
                                    refine c_region ?_
                                    refine l_step (y_moveV (et g0 rfl)) ?_
                                    refine l_step (y_not (et g0 rfl)) ?_
                                    refine l_nil ?_
                                    refine hK46 _ _ ?_
                                    refine fg4 0 2 6 97 (gS rfl (gS rfl (gS rfl (gS rfl (gS rfl g0))))) (gS rfl (gS rfl (gS rfl (gS rfl g0)))) (gS rfl (gS rfl (gS rfl g0))) g0 (fun g => ?_)
                                    refine c_false (et g0 rfl) rfl ?_
                                    refine c_skip ?_
                                    refine hK45 _ _ ?_
                                    refine fg3 0 2 6 (gS rfl (gS rfl (gS rfl g0))) (gS rfl (gS rfl g0)) (gS rfl g0) (fun g => ?_)
                                    exact (by
                                      refine c_region ?_
                                      refine l_step (y_moveV (et (gS rfl (gS rfl g0)) rfl)) ?_
                                      refine l_step (y_moveV (et (gS rfl (gS rfl g0)) rfl)) ?_
                                      refine l_step (y_moveV (et (gS rfl (gS rfl g0)) rfl)) ?_
                                      refine l_step (y_bld bN bld65_z) ?_
                                      refine l_eff (e_callV cal_259 (aC (et (gS rfl (gS rfl (gS rfl g0))) rfl) (aC (et (gS rfl (gS rfl g0)) rfl) (aC (et (gS rfl g0) rfl) (aC rfl (aC (et g0 rfl) (aC (v := .int .u16 ((1 : Nat) : Int)) rfl aN)))))) (m_settle0 hX.ex hs hp (by first | exact hpf | rfl) 3 0 1 (by omega) (by decide) (by omega))) (fun v48 w48 h48 => ?_)
                                      obtain ⟨rfl, cs48, y48⟩ := h48
                                      replace k8 := k8.ch y48.et.go.ch (by intro hm; (have e0 := hm); omega)
                                      replace k12 := k12.ch y48.et.go.ch (by intro hm; (have e0 := hm); omega)
                                      replace k16 := k16.ch y48.et.go.ch (by intro hm; (have e0 := hm); omega)
                                      replace hX := hX.trans y48
                                      replace U := U.cc y48.et.go.ch (by intro b hb; exact .inl trivial)
                                      refine l_nil ?_
                                      refine end0 rfl ?_
                                      have e9 : cpN m (argN f.stack 0) f.code (argN f.stack 1) (argN f.stack 2) = m := if_pos y0
                                      rw [hms] at hX
                                      exact ⟨rfl, _, by rw [e9]; exact hX⟩)))))))))))))))))
theorem m_opCopy62 {w : World} {H : Store} {col : Nat → Nat} {bc : Nat} {cs : Array Value} {V : EV} {s : YSt} {sn : List Nat} {sv : List AW} {ms : List (List Nat)} {c : Nat} {low : List YF} {f : YF} (hE : EX w H col bc cs V s sn sv ms c) (hs : s.frames = low ++ [f]) (hp : s.phase = 1) {lo : List (List Nat)} {m : List Nat} (hms : ms = lo ++ [m]) (hq : opcN f = 62) (hpc9 : f.pc < 512) (htk9 : 3 ≤ f.stack.length) (hrl9 : s.ret.length ≤ 717280) (hr : argN f.stack 2 ≠ 0 → argN f.stack 0 + argN f.stack 2 ≤ m.length) :
    Ret 195 [.pointer (some ⟨bc, 0, none⟩)] w (fun v w' => v = .tuple #[] ∧ ∃ cs', XT w H col w' H col bc cs' V { s with frames := low ++ [setF f 3 false 0 1] } sn sv (lo ++ [cpN m (argN f.stack 0) s.ret (argN f.stack 1) (argN f.stack 2)]) c) := by
  obtain ⟨n9, hn9, hR⟩ := hE.topF hs
  have hB := hE.fbT hs
  have h6 := hE.six hs
  have htop := hE.cTop hs
  have hphs := hE.cPh hp
  have hbp := hB.pc
  have hbs := hB.stk
  have hbg := hB.gas
  have hbc9 := hB.code
  have hnw := hE.vl.new
  have hfz := hE.vl.fz
  have hcC := hE.vl.colC
  have hbc0 := hE.vl.kC.lt
  have hX := XT.refl hE
  have hmx := hE.memMx hms
  obtain ⟨ca9, cc9, ia9, ic9, hr5, hcode, hinp⟩ := hR.r5
  obtain ⟨ra9, rc9, hret9, hrb9⟩ := hE.lx.ret
  have hbi9 := hB.input
  refine enter (n := 105) Hvaa.func195 rfl rfl (Nat.le_of_ble_eq_true rfl) ?_
  have U : Ch (fun _ => True) w w := Ch.refl _ w
  refine c_seq (fun K1 hK1 => ?_)
  exact (by
    refine c_region ?_
    refine l_step (y_moveV (et g0 rfl)) ?_
    refine l_eff (e_callV cal_183 (aC (et g0 rfl) aN) (m_running hX.ex hs hp)) (fun v2 w2 h2 => ?_)
    obtain ⟨rfl, u2⟩ := h2
    replace hX := hX.up u2
    replace U := U.tr u2
    refine l_step (y_assignV (et g0 rfl)) ?_
    refine l_nil ?_
    refine hK1 _ _ ?_
    refine fg2 0 2 (gS rfl (gS rfl (gS rfl g0))) g0 (fun g => ?_)
    refine c_seq (fun K3 hK3 => ?_)
    refine c_seq (fun K4 hK4 => ?_)
    exact (by
      refine c_region ?_
      refine l_step (y_moveV (et g0 rfl)) ?_
      refine l_step (y_eqlNil Hvaa.underlying276 (et g0 rfl) rfl) ?_
      refine l_nil ?_
      refine hK4 _ _ ?_
      refine fg3 0 2 14 (gS rfl (gS rfl (gS rfl g0))) (gS rfl (gS rfl g0)) g0 (fun g => ?_)
      refine c_false (et g0 rfl) rfl ?_
      refine c_skip ?_
      refine hK3 _ _ ?_
      refine fg2 0 2 (gS rfl (gS rfl g0)) (gS rfl g0) (fun g => ?_)
      refine c_seq (fun K6 hK6 => ?_)
      exact (by
        refine c_region ?_
        refine l_step (y_moveV (et (gS rfl g0) rfl)) ?_
        refine l_step (y_moveV (et (gS rfl g0) rfl)) ?_
        refine l_eff (e_callV cal_264 (aC (et (gS rfl g0) rfl) (aC (et g0 rfl) (aC (v := .int .i64 ((0 : Nat) : Int)) rfl aN))) (m_arg hX.ex hs hp (by first | exact hpf | rfl) _ (by decide))) (fun v7 w7 h7 => ?_)
        obtain ⟨rfl, u7⟩ := h7
        replace hX := hX.up u7
        replace U := U.tr u7
        refine l_eff (e_alloc zr_65) (fun v8 w8 h8 => ?_)
        obtain ⟨b8, rfl, n8⟩ := h8
        have f8 : w.heap.size ≤ b8 := Nat.le_trans U.size n8.fresh
        replace hX := hX.up n8.up
        replace U := U.tr n8.up
        have k8 := n8.blk
        obtain ⟨zs8, hz8, k8⟩ : ∃ cs : Array Value, cs.size = 4 ∧ Blk w8 b8 cs := ⟨_, rfl, k8⟩
        have nc8 : col b8 = 0 := hnw _ f8
        refine l_effN (e_store sz_65 (et g0 rfl) (cellsV (et (gS rfl g0) rfl) rfl) rfl (by exact one_uL _) k8 (by (first | (rw [hz8]; exact Nat.le_refl _) | (rw [List.size_toArray, wL_len]; exact Nat.le_refl _)))) (fun v9 w9 h9 => ?_)
        obtain ⟨rfl, x9⟩ := h9
        replace hX := hX.ch x9.ch (by first | omega | (intro b hb; first | (subst hb; first | exact ⟨by omega, fun hh => by have := hfz.lt hh; omega, by omega⟩ | exact ⟨by omega, by assumption, by omega⟩) | (rcases hb with hb | hb <;> (subst hb; first | exact ⟨by omega, fun hh => by have := hfz.lt hh; omega, by omega⟩ | exact ⟨by omega, by assumption, by omega⟩))))
        replace k8 := x9.blk.full (by first | (rw [hz8]; rfl) | (rw [List.size_toArray, wL_len, wL_len]))
        replace U := U.st x9 (.inr f8)
        refine l_nil ?_
        refine hK6 _ _ ?_
        refine fg3 0 2 3 (gS rfl (gS rfl (gS rfl (gS rfl (gS rfl g0))))) (gS rfl (gS rfl (gS rfl (gS rfl g0)))) g0 (fun g => ?_)
        refine c_seq (fun K10 hK10 => ?_)
        exact (by
          refine c_region ?_
          refine l_step (y_moveV (et (gS rfl (gS rfl g0)) rfl)) ?_
          refine l_step (y_moveV (et (gS rfl (gS rfl g0)) rfl)) ?_
          refine l_eff (e_callV cal_264 (aC (et (gS rfl g0) rfl) (aC (et g0 rfl) (aC (v := .int .i64 ((1 : Nat) : Int)) rfl aN))) (m_arg hX.ex hs hp (by first | exact hpf | rfl) _ (by decide))) (fun v11 w11 h11 => ?_)
          obtain ⟨rfl, u11⟩ := h11
          replace k8 := k8.up u11
          replace hX := hX.up u11
          replace U := U.tr u11
          refine l_eff (e_alloc zr_65) (fun v12 w12 h12 => ?_)
          obtain ⟨b12, rfl, n12⟩ := h12
          have d8_12 : b8 < b12 := Nat.lt_of_lt_of_le k8.lt n12.fresh
          have f12 : w.heap.size ≤ b12 := Nat.le_trans U.size n12.fresh
          replace k8 := k8.up n12.up
          replace hX := hX.up n12.up
          replace U := U.tr n12.up
          have k12 := n12.blk
          obtain ⟨zs12, hz12, k12⟩ : ∃ cs : Array Value, cs.size = 4 ∧ Blk w12 b12 cs := ⟨_, rfl, k12⟩
          have nc12 : col b12 = 0 := hnw _ f12
          refine l_effN (e_store sz_65 (et g0 rfl) (cellsV (et (gS rfl g0) rfl) rfl) rfl (by exact one_uL _) k12 (by (first | (rw [hz12]; exact Nat.le_refl _) | (rw [List.size_toArray, wL_len]; exact Nat.le_refl _)))) (fun v13 w13 h13 => ?_)
          obtain ⟨rfl, x13⟩ := h13
          replace k8 := k8.ch x13.ch (by omega)
          replace hX := hX.ch x13.ch (by first | omega | (intro b hb; first | (subst hb; first | exact ⟨by omega, fun hh => by have := hfz.lt hh; omega, by omega⟩ | exact ⟨by omega, by assumption, by omega⟩) | (rcases hb with hb | hb <;> (subst hb; first | exact ⟨by omega, fun hh => by have := hfz.lt hh; omega, by omega⟩ | exact ⟨by omega, by assumption, by omega⟩))))
          replace k12 := x13.blk.full (by first | (rw [hz12]; rfl) | (rw [List.size_toArray, wL_len, wL_len]))
          replace U := U.st x13 (.inr f12)
          refine l_nil ?_
          refine hK10 _ _ ?_
          refine fg4 0 2 3 4 (gS rfl (gS rfl (gS rfl (gS rfl (gS rfl (gS rfl g0)))))) (gS rfl (gS rfl (gS rfl (gS rfl (gS rfl g0))))) (gS rfl (gS rfl (gS rfl (gS rfl g0)))) g0 (fun g => ?_)
          refine c_seq (fun K14 hK14 => ?_)
          exact (by
            refine c_region ?_
            refine l_step (y_moveV (et (gS rfl (gS rfl (gS rfl g0))) rfl)) ?_
            refine l_step (y_moveV (et (gS rfl (gS rfl (gS rfl g0))) rfl)) ?_
            refine l_eff (e_callV cal_264 (aC (et (gS rfl g0) rfl) (aC (et g0 rfl) (aC (v := .int .i64 ((2 : Nat) : Int)) rfl aN))) (m_arg hX.ex hs hp (by first | exact hpf | rfl) _ (by decide))) (fun v15 w15 h15 => ?_)
            obtain ⟨rfl, u15⟩ := h15
            replace k8 := k8.up u15
            replace k12 := k12.up u15
            replace hX := hX.up u15
            replace U := U.tr u15
            refine l_eff (e_alloc zr_65) (fun v16 w16 h16 => ?_)
            obtain ⟨b16, rfl, n16⟩ := h16
            have d8_16 : b8 < b16 := Nat.lt_of_lt_of_le k8.lt n16.fresh
            have d12_16 : b12 < b16 := Nat.lt_of_lt_of_le k12.lt n16.fresh
            have f16 : w.heap.size ≤ b16 := Nat.le_trans U.size n16.fresh
            replace k8 := k8.up n16.up
            replace k12 := k12.up n16.up
            replace hX := hX.up n16.up
            replace U := U.tr n16.up
            have k16 := n16.blk
            obtain ⟨zs16, hz16, k16⟩ : ∃ cs : Array Value, cs.size = 4 ∧ Blk w16 b16 cs := ⟨_, rfl, k16⟩
            have nc16 : col b16 = 0 := hnw _ f16
            refine l_effN (e_store sz_65 (et g0 rfl) (cellsV (et (gS rfl g0) rfl) rfl) rfl (by exact one_uL _) k16 (by (first | (rw [hz16]; exact Nat.le_refl _) | (rw [List.size_toArray, wL_len]; exact Nat.le_refl _)))) (fun v17 w17 h17 => ?_)
            obtain ⟨rfl, x17⟩ := h17
            replace k8 := k8.ch x17.ch (by omega)
            replace k12 := k12.ch x17.ch (by omega)
            replace hX := hX.ch x17.ch (by first | omega | (intro b hb; first | (subst hb; first | exact ⟨by omega, fun hh => by have := hfz.lt hh; omega, by omega⟩ | exact ⟨by omega, by assumption, by omega⟩) | (rcases hb with hb | hb <;> (subst hb; first | exact ⟨by omega, fun hh => by have := hfz.lt hh; omega, by omega⟩ | exact ⟨by omega, by assumption, by omega⟩))))
            replace k16 := x17.blk.full (by first | (rw [hz16]; rfl) | (rw [List.size_toArray, wL_len, wL_len]))
            replace U := U.st x17 (.inr f16)
            refine l_nil ?_
            refine hK14 _ _ ?_
            refine fg5 0 2 3 4 5 (gS rfl (gS rfl (gS rfl (gS rfl (gS rfl (gS rfl (gS rfl g0))))))) (gS rfl (gS rfl (gS rfl (gS rfl (gS rfl (gS rfl g0)))))) (gS rfl (gS rfl (gS rfl (gS rfl (gS rfl g0))))) (gS rfl (gS rfl (gS rfl (gS rfl g0)))) g0 (fun g => ?_)
            refine c_seq (fun K18 hK18 => ?_)
            exact (by
              refine c_region ?_
              refine l_step y_assignC ?_
              refine l_nil ?_
              refine hK18 _ _ ?_
              refine c_seq (fun K19 hK19 => ?_)
              exact (by
                refine c_region ?_
                refine l_step y_assignC ?_
                refine l_nil ?_
                refine hK19 _ _ ?_
                refine c_seq (fun K20 hK20 => ?_)
                exact (by
                  refine c_region ?_
                  refine l_step (y_moveV (et (gS rfl (gS rfl (gS rfl (gS rfl (gS rfl (gS rfl g0)))))) rfl)) ?_
                  refine l_eff (e_callV cal_108 (aC (et g0 rfl) aN) (m_opcode hX.ex hs hp)) (fun v21 w21 h21 => ?_)
                  obtain ⟨rfl, u21⟩ := h21
                  replace k8 := k8.up u21
                  replace k12 := k12.up u21
                  replace k16 := k16.up u21
                  replace hX := hX.up u21
                  replace U := U.tr u21
                  refine l_step (y_assignV (et g0 rfl)) ?_
                  refine l_nil ?_
                  refine hK20 _ _ ?_
                  refine fg8 0 2 3 4 5 6 7 8 (gS rfl (gS rfl (gS rfl (gS rfl (gS rfl (gS rfl (gS rfl (gS rfl (gS rfl g0))))))))) (gS rfl (gS rfl (gS rfl (gS rfl (gS rfl (gS rfl (gS rfl (gS rfl g0)))))))) (gS rfl (gS rfl (gS rfl (gS rfl (gS rfl (gS rfl (gS rfl g0))))))) (gS rfl (gS rfl (gS rfl (gS rfl (gS rfl (gS rfl g0)))))) (gS rfl (gS rfl (gS rfl (gS rfl (gS rfl g0))))) (gS rfl (gS rfl (gS rfl (gS rfl g0)))) (gS rfl (gS rfl (gS rfl g0))) g0 (fun g => ?_)
                  refine c_seq (fun K22 hK22 => ?_)
                  refine c_seq (fun K23 hK23 => ?_)
                  exact (by
                    refine c_region ?_
                    refine l_step (y_moveV (et g0 rfl)) ?_
                    refine l_nil ?_
                    refine hK23 _ _ ?_
                    refine c_block (fun Q24 hQ24 => ?_)
                    refine c_seq (fun K25 hK25 => ?_)
                    exact (by
                      refine c_region ?_
                      refine l_step (y_eql (et g0 rfl) rfl) ?_
                      refine l_step (y_assignV (et g0 rfl)) ?_
                      refine l_nil ?_
                      refine hK25 _ _ ?_
                      refine fg10 0 2 3 4 5 6 7 8 26 27 (gS rfl (gS rfl (gS rfl (gS rfl (gS rfl (gS rfl (gS rfl (gS rfl (gS rfl (gS rfl g0)))))))))) (gS rfl (gS rfl (gS rfl (gS rfl (gS rfl (gS rfl (gS rfl (gS rfl (gS rfl g0))))))))) (gS rfl (gS rfl (gS rfl (gS rfl (gS rfl (gS rfl (gS rfl (gS rfl g0)))))))) (gS rfl (gS rfl (gS rfl (gS rfl (gS rfl (gS rfl (gS rfl g0))))))) (gS rfl (gS rfl (gS rfl (gS rfl (gS rfl (gS rfl g0)))))) (gS rfl (gS rfl (gS rfl (gS rfl (gS rfl g0))))) (gS rfl (gS rfl (gS rfl (gS rfl g0)))) (gS rfl (gS rfl (gS rfl g0))) (gS rfl (gS rfl g0)) g0 (fun g => ?_)
                      refine c_false (et g0 rfl) (by (exact decide_eq_false (by omega))) ?_
                      refine c_seq (fun K27 hK27 => ?_)
                      exact (by
                        refine c_region ?_
                        refine l_step (y_eql (et (gS rfl g0) rfl) rfl) ?_
                        refine l_step (y_assignV (et g0 rfl)) ?_
                        refine l_nil ?_
                        refine hK27 _ _ ?_
                        refine fg10 0 2 3 4 5 6 7 8 26 33 (gS rfl (gS rfl (gS rfl (gS rfl (gS rfl (gS rfl (gS rfl (gS rfl (gS rfl (gS rfl (gS rfl g0))))))))))) (gS rfl (gS rfl (gS rfl (gS rfl (gS rfl (gS rfl (gS rfl (gS rfl (gS rfl (gS rfl g0)))))))))) (gS rfl (gS rfl (gS rfl (gS rfl (gS rfl (gS rfl (gS rfl (gS rfl (gS rfl g0))))))))) (gS rfl (gS rfl (gS rfl (gS rfl (gS rfl (gS rfl (gS rfl (gS rfl g0)))))))) (gS rfl (gS rfl (gS rfl (gS rfl (gS rfl (gS rfl (gS rfl g0))))))) (gS rfl (gS rfl (gS rfl (gS rfl (gS rfl (gS rfl g0)))))) (gS rfl (gS rfl (gS rfl (gS rfl (gS rfl g0))))) (gS rfl (gS rfl (gS rfl (gS rfl g0)))) (gS rfl (gS rfl (gS rfl g0))) g0 (fun g => ?_)
                        refine c_false (et g0 rfl) (by (exact decide_eq_false (by omega))) ?_
                        refine c_seq (fun K29 hK29 => ?_)
                        exact (by
                          refine c_region ?_
                          refine l_step (y_eql (et (gS rfl g0) rfl) rfl) ?_
                          refine l_step (y_assignV (et g0 rfl)) ?_
                          refine l_nil ?_
                          refine hK29 _ _ ?_
                          refine fg10 0 2 3 4 5 6 7 8 26 39 (gS rfl (gS rfl (gS rfl (gS rfl (gS rfl (gS rfl (gS rfl (gS rfl (gS rfl (gS rfl (gS rfl g0))))))))))) (gS rfl (gS rfl (gS rfl (gS rfl (gS rfl (gS rfl (gS rfl (gS rfl (gS rfl (gS rfl g0)))))))))) (gS rfl (gS rfl (gS rfl (gS rfl (gS rfl (gS rfl (gS rfl (gS rfl (gS rfl g0))))))))) (gS rfl (gS rfl (gS rfl (gS rfl (gS rfl (gS rfl (gS rfl (gS rfl g0)))))))) (gS rfl (gS rfl (gS rfl (gS rfl (gS rfl (gS rfl (gS rfl g0))))))) (gS rfl (gS rfl (gS rfl (gS rfl (gS rfl (gS rfl g0)))))) (gS rfl (gS rfl (gS rfl (gS rfl (gS rfl g0))))) (gS rfl (gS rfl (gS rfl (gS rfl g0)))) (gS rfl (gS rfl (gS rfl g0))) g0 (fun g => ?_)
                          refine c_true (et g0 rfl) (by (exact decide_eq_true (by omega))) ?_
                          exact (by
                            refine c_region ?_
                            refine l_step (y_moveV (et (gS rfl (gS rfl (gS rfl (gS rfl (gS rfl (gS rfl (gS rfl (gS rfl (gS rfl g0))))))))) rfl)) ?_
                            refine l_step (y_nil (et g0 rfl)) ?_
                            refine l_step (y_fld fld_75_5 (et g0 rfl)) ?_
                            refine l_step (y_load1 one_38 (et g0 rfl) (at1 (hX.ex.vl.c1 hret9 rfl))) ?_
                            refine l_step (y_assignV (et g0 rfl)) ?_
                            refine l_nil ?_
                            refine hQ24 _ _ _ (in_normal ?_)
                            refine hK22 _ _ ?_
                            refine fg8 0 2 3 4 5 6 7 8 (gS rfl (gS rfl (gS rfl (gS rfl (gS rfl (gS rfl (gS rfl (gS rfl (gS rfl (gS rfl (gS rfl (gS rfl (gS rfl (gS rfl g0)))))))))))))) (gS rfl (gS rfl (gS rfl (gS rfl (gS rfl (gS rfl (gS rfl (gS rfl (gS rfl (gS rfl (gS rfl (gS rfl (gS rfl g0))))))))))))) (gS rfl (gS rfl (gS rfl (gS rfl (gS rfl (gS rfl (gS rfl (gS rfl (gS rfl (gS rfl (gS rfl (gS rfl g0)))))))))))) (gS rfl (gS rfl (gS rfl (gS rfl (gS rfl (gS rfl (gS rfl (gS rfl (gS rfl (gS rfl (gS rfl g0))))))))))) (gS rfl (gS rfl (gS rfl (gS rfl (gS rfl (gS rfl (gS rfl (gS rfl (gS rfl (gS rfl g0)))))))))) (gS rfl (gS rfl (gS rfl (gS rfl (gS rfl (gS rfl (gS rfl (gS rfl (gS rfl g0))))))))) g0 (gS rfl (gS rfl (gS rfl (gS rfl (gS rfl (gS rfl (gS rfl g0))))))) (fun g => ?_)
                            refine c_seq (fun K31 hK31 => ?_)
                            exact (by
                              refine c_region ?_
                              refine l_step y_assignC ?_
                              refine l_nil ?_
                              refine hK31 _ _ ?_
                              refine c_seq (fun K32 hK32 => ?_)
                              refine c_seq (fun K33 hK33 => ?_)
                              exact (by
                                refine c_region ?_
                                refine l_step (y_moveV (et (gS rfl g0) rfl)) ?_
                                refine l_step (y_eql (et g0 rfl) rfl) ?_
                                refine l_nil ?_
                                refine hK33 _ _ ?_
                                refine fg9 0 2 3 4 5 6 7 10 67 (gS rfl (gS rfl (gS rfl (gS rfl (gS rfl (gS rfl (gS rfl (gS rfl (gS rfl (gS rfl g0)))))))))) (gS rfl (gS rfl (gS rfl (gS rfl (gS rfl (gS rfl (gS rfl (gS rfl (gS rfl g0))))))))) (gS rfl (gS rfl (gS rfl (gS rfl (gS rfl (gS rfl (gS rfl (gS rfl g0)))))))) (gS rfl (gS rfl (gS rfl (gS rfl (gS rfl (gS rfl (gS rfl g0))))))) (gS rfl (gS rfl (gS rfl (gS rfl (gS rfl (gS rfl g0)))))) (gS rfl (gS rfl (gS rfl (gS rfl (gS rfl g0))))) (gS rfl (gS rfl (gS rfl (gS rfl g0)))) (gS rfl (gS rfl g0)) g0 (fun g => ?_)
                                refine c_false (et g0 rfl) (by (exact decide_eq_false (by omega))) ?_
                                refine c_seq (fun K35 hK35 => ?_)
                                exact (by
                                  refine c_region ?_
                                  refine l_step (y_loadB agg_65 sz_65 (et (gS rfl (gS rfl (gS rfl (gS rfl g0)))) rfl) rfl (at1B k16)) ?_
                                  refine l_eff (e_callV cal_78 (aC (et g0 rfl) aN) (isZero_spec _ _ (argN_lt hB _))) (fun v36 w36 h36 => ?_)
                                  obtain ⟨rfl, u36⟩ := h36
                                  replace k8 := k8.up u36
                                  replace k12 := k12.up u36
                                  replace k16 := k16.up u36
                                  replace hX := hX.up u36
                                  replace U := U.tr u36
                                  refine l_step (y_not (et g0 rfl)) ?_
                                  refine l_nil ?_
                                  refine hK35 _ _ ?_
                                  refine fg9 0 2 3 4 5 6 7 10 84 (gS rfl (gS rfl (gS rfl (gS rfl (gS rfl (gS rfl (gS rfl (gS rfl (gS rfl (gS rfl (gS rfl g0))))))))))) (gS rfl (gS rfl (gS rfl (gS rfl (gS rfl (gS rfl (gS rfl (gS rfl (gS rfl (gS rfl g0)))))))))) (gS rfl (gS rfl (gS rfl (gS rfl (gS rfl (gS rfl (gS rfl (gS rfl (gS rfl g0))))))))) (gS rfl (gS rfl (gS rfl (gS rfl (gS rfl (gS rfl (gS rfl (gS rfl g0)))))))) (gS rfl (gS rfl (gS rfl (gS rfl (gS rfl (gS rfl (gS rfl g0))))))) (gS rfl (gS rfl (gS rfl (gS rfl (gS rfl (gS rfl g0)))))) (gS rfl (gS rfl (gS rfl (gS rfl (gS rfl g0))))) (gS rfl (gS rfl (gS rfl (gS rfl g0)))) g0 (fun g => ?_)
                                  refine c_cond (et g0 rfl) (fun cB8 => ?_) (fun cB8 => ?_)
                                  · skip
                                    
                                    have y0 : argN f.stack 2 ≠ 0 := by simpa using cB8
                                    have hr8 := hr y0
                                    exact (by
                                      refine c_draw (SX _ bc) 12 [(0, true), (1, true), (2, true), (3, true), (5, true), (6, true), (8, true), (4, false), (7, false), (9, false), (10, false), (11, true)] (by kernel_rfl) (fun w38 hu => ⟨SX.refl (hX.up hu), ?_⟩)
                                      replace k8 := k8.up hu
                                      replace k12 := k12.up hu
                                      replace k16 := k16.up hu
                                      replace hX := hX.up hu
                                      replace U := U.tr hu
                                      have SU := SX.refl hX
                                      have cq := cq_refl hX
                                      have hX_s := hX
                                      have k8_s := k8
                                      have k12_s := k12
                                      have k16_s := k16
                                      refine p_step (by exact rfl) (y_moveV (et (gS rfl (gS rfl (gS rfl (gS rfl (gS rfl (gS rfl (gS rfl (gS rfl g0)))))))) rfl)) ?_
                                      refine p_step (by exact rfl) (y_nil (et g0 rfl)) ?_
                                      refine p_step (by exact rfl) (y_fld fld_75_1 (et g0 rfl)) ?_
                                      refine p_step (by exact rfl) (y_loadB agg_65 sz_65 (et (gS rfl (gS rfl (gS rfl (gS rfl (gS rfl (gS rfl (gS rfl (gS rfl (gS rfl g0))))))))) rfl) rfl (atXB k8_s (by omega))) ?_
                                      refine p_step (by exact rfl) (y_moveV (et (gS rfl (gS rfl (gS rfl (gS rfl (gS rfl (gS rfl g0)))))) rfl)) ?_
                                      refine p_step (by exact rfl) (y_loadB agg_65 sz_65 (et (gS rfl (gS rfl (gS rfl (gS rfl (gS rfl (gS rfl (gS rfl (gS rfl (gS rfl (gS rfl g0)))))))))) rfl) rfl (atXB k12_s (by omega))) ?_
                                      refine p_step (by exact rfl) (y_loadB agg_65 sz_65 (et (gS rfl (gS rfl (gS rfl (gS rfl (gS rfl (gS rfl (gS rfl (gS rfl (gS rfl (gS rfl g0)))))))))) rfl) rfl (atXB k16_s (by omega))) ?_
                                      refine p_eff (by exact rfl) (e_callV cal_299 (aC (et (gS rfl (gS rfl (gS rfl g0))) rfl) aN) (m_small _ _ (by omega))) (fun v39 w39 h39 => ?_)
                                      obtain ⟨rfl, u39⟩ := h39
                                      replace k8 := k8.up u39
                                      replace k12 := k12.up u39
                                      replace k16 := k16.up u39
                                      replace hX := hX.up u39
                                      replace U := U.tr u39
                                      refine ⟨.inr (SU.tr u39), ?_⟩
                                      replace SU := SU.tr u39
                                      refine p_eff (by exact rfl) (e_callV cal_297 (aC (et (gS rfl (gS rfl g0)) rfl) aN) (mach_source _ _ (argN_lt hB _))) (fun v40 w40 h40 => ?_)
                                      obtain ⟨rfl, u40⟩ := h40
                                      replace k8 := k8.up u40
                                      replace k12 := k12.up u40
                                      replace k16 := k16.up u40
                                      replace hX := hX.up u40
                                      replace U := U.tr u40
                                      refine ⟨.inr (SU.tr u40), ?_⟩
                                      replace SU := SU.tr u40
                                      exact (by
                                        refine p_eff (by exact rfl) (e_callV cal_299 (aC (et (gS rfl (gS rfl g0)) rfl) aN) (m_small _ _ (by omega))) (fun v41 w41 h41 => ?_)
                                        obtain ⟨rfl, u41⟩ := h41
                                        replace k8 := k8.up u41
                                        replace k12 := k12.up u41
                                        replace k16 := k16.up u41
                                        replace hX := hX.up u41
                                        replace U := U.tr u41
                                        refine ⟨.inr (SU.tr u41), ?_⟩
                                        replace SU := SU.tr u41
                                        refine p_eff (by exact rfl) (e_callV cal_258 (aC (et (gS rfl (gS rfl (gS rfl (gS rfl (gS rfl (gS rfl (gS rfl g0))))))) rfl) (aC (et (gS rfl (gS rfl g0)) rfl) (aC (et (gS rfl (gS rfl (gS rfl (gS rfl (gS rfl g0))))) rfl) (aC (et (gS rfl g0) rfl) (aC (et g0 rfl) aN))))) (hX.ex.mWr hms _ _ _ (by omega) (by omega) (srcN_lt _) hrb9 (by omega))) (fun v42 w42 h42 => ?_)
                                        obtain ⟨rfl, m42, z42⟩ := h42
                                        replace k8 := k8.ch z42 (by intro hm; (have e0 := hm); omega)
                                        replace k12 := k12.ch z42 (by intro hm; (have e0 := hm); omega)
                                        replace k16 := k16.ch z42 (by intro hm; (have e0 := hm); omega)
                                        replace hX := hX.mem z42 (fun b hb => hb) m42
                                        replace U := U.cc z42 (by intro b hb; exact .inl trivial)
                                        have cq9 := SU.ch.size
                                        replace SU := SU.xc z42 (hX.ex.vl.c1 hX.ex.lx.pS rfl) (by intro b hlt hb; have h9 := cq b hlt; have e0 := hb; first | omega | (dsimp only at e0; omega))
                                        refine ⟨.inr SU, ?_⟩
                                        refine p_step (by exact rfl) (y_assignV (et g0 rfl)) ?_
                                        refine p_nil ?_
                                        refine hK32 _ _ ?_
                                        refine fg4 0 2 6 10 (gS rfl (gS rfl (gS rfl (gS rfl (gS rfl (gS rfl (gS rfl (gS rfl (gS rfl (gS rfl (gS rfl (gS rfl (gS rfl (gS rfl (gS rfl (gS rfl (gS rfl (gS rfl (gS rfl (gS rfl g0)))))))))))))))))))) (gS rfl (gS rfl (gS rfl (gS rfl (gS rfl (gS rfl (gS rfl (gS rfl (gS rfl (gS rfl (gS rfl (gS rfl (gS rfl (gS rfl (gS rfl (gS rfl (gS rfl (gS rfl (gS rfl g0))))))))))))))))))) (gS rfl (gS rfl (gS rfl (gS rfl (gS rfl (gS rfl (gS rfl (gS rfl (gS rfl (gS rfl (gS rfl (gS rfl (gS rfl (gS rfl (gS rfl g0))))))))))))))) g0 (fun g => ?_)
                                        refine c_seq (fun K43 hK43 => ?_)
                                        refine c_seq (fun K44 hK44 => ?_)
                                        exact (by
                                          refine c_region ?_
                                          refine l_step (y_moveV (et g0 rfl)) ?_
                                          refine l_step (y_not (et g0 rfl)) ?_
                                          refine l_nil ?_
                                          refine hK44 _ _ ?_
                                          refine fg4 0 2 6 97 (gS rfl (gS rfl (gS rfl (gS rfl (gS rfl g0))))) (gS rfl (gS rfl (gS rfl (gS rfl g0)))) (gS rfl (gS rfl (gS rfl g0))) g0 (fun g => ?_)
                                          refine c_false (et g0 rfl) (by rfl) ?_
                                          refine c_skip ?_
                                          refine hK43 _ _ ?_
                                          refine fg3 0 2 6 (gS rfl (gS rfl (gS rfl g0))) (gS rfl (gS rfl g0)) (gS rfl g0) (fun g => ?_)
                                          exact (by
                                            refine c_region ?_
                                            refine l_step (y_moveV (et (gS rfl (gS rfl g0)) rfl)) ?_
                                            refine l_step (y_moveV (et (gS rfl (gS rfl g0)) rfl)) ?_
                                            refine l_step (y_moveV (et (gS rfl (gS rfl g0)) rfl)) ?_
                                            refine l_step (y_bld bN bld65_z) ?_
                                            refine l_eff (e_callV cal_259 (aC (et (gS rfl (gS rfl (gS rfl g0))) rfl) (aC (et (gS rfl (gS rfl g0)) rfl) (aC (et (gS rfl g0) rfl) (aC rfl (aC (et g0 rfl) (aC (v := .int .u16 ((1 : Nat) : Int)) rfl aN)))))) (m_settle0 hX.ex hs hp (by first | exact hpf | rfl) 3 0 1 (by omega) (by decide) (by omega))) (fun v46 w46 h46 => ?_)
                                            obtain ⟨rfl, cs46, y46⟩ := h46
                                            replace k8 := k8.ch y46.et.go.ch (by intro hm; (have e0 := hm); omega)
                                            replace k12 := k12.ch y46.et.go.ch (by intro hm; (have e0 := hm); omega)
                                            replace k16 := k16.ch y46.et.go.ch (by intro hm; (have e0 := hm); omega)
                                            replace hX := hX.trans y46
                                            replace U := U.cc y46.et.go.ch (by intro b hb; exact .inl trivial)
                                            refine l_nil ?_
                                            refine end0 rfl ?_
                                            rw [cut_src (by omega)] at hX
                                            have e9 : cpN m (argN f.stack 0) s.ret (argN f.stack 1) (argN f.stack 2) = wrN m (argN f.stack 0) (cutN s.ret (argN f.stack 1) (argN f.stack 2)) := if_neg y0
                                            exact ⟨rfl, _, by rw [e9]; exact hX⟩))))
                                  · skip
                                    
                                    have y0 : argN f.stack 2 = 0 := by simpa using cB8
                                    refine c_skip ?_
                                    refine hK32 _ _ ?_
                                    refine fg4 0 2 6 10 (gS rfl (gS rfl (gS rfl (gS rfl (gS rfl (gS rfl (gS rfl (gS rfl g0)))))))) (gS rfl (gS rfl (gS rfl (gS rfl (gS rfl (gS rfl (gS rfl g0))))))) (gS rfl (gS rfl (gS rfl g0))) (gS rfl g0) (fun g => ?_)
                                    refine c_seq (fun K47 hK47 => ?_)
                                    refine c_seq (fun K48 hK48 => ?_)
                                    exact (by
                                      refine c_region ?_
                                      refine l_step (y_moveV (et g0 rfl)) ?_
                                      refine l_step (y_not (et g0 rfl)) ?_
                                      refine l_nil ?_
                                      refine hK48 _ _ ?_
                                      refine fg4 0 2 6 97 (gS rfl (gS rfl (gS rfl (gS rfl (gS rfl g0))))) (gS rfl (gS rfl (gS rfl (gS rfl g0)))) (gS rfl (gS rfl (gS rfl g0))) g0 (fun g => ?_)
                                      refine c_false (et g0 rfl) rfl ?_
                                      refine c_skip ?_
                                      refine hK47 _ _ ?_
                                      refine fg3 0 2 6 (gS rfl (gS rfl (gS rfl g0))) (gS rfl (gS rfl g0)) (gS rfl g0) (fun g => ?_)
                                      exact (by
                                        refine c_region ?_
                                        refine l_step (y_moveV (et (gS rfl (gS rfl g0)) rfl)) ?_
                                        refine l_step (y_moveV (et (gS rfl (gS rfl g0)) rfl)) ?_
                                        refine l_step (y_moveV (et (gS rfl (gS rfl g0)) rfl)) ?_
                                        refine l_step (y_bld bN bld65_z) ?_
                                        refine l_eff (e_callV cal_259 (aC (et (gS rfl (gS rfl (gS rfl g0))) rfl) (aC (et (gS rfl (gS rfl g0)) rfl) (aC (et (gS rfl g0) rfl) (aC rfl (aC (et g0 rfl) (aC (v := .int .u16 ((1 : Nat) : Int)) rfl aN)))))) (m_settle0 hX.ex hs hp (by first | exact hpf | rfl) 3 0 1 (by omega) (by decide) (by omega))) (fun v50 w50 h50 => ?_)
                                        obtain ⟨rfl, cs50, y50⟩ := h50
                                        replace k8 := k8.ch y50.et.go.ch (by intro hm; (have e0 := hm); omega)
                                        replace k12 := k12.ch y50.et.go.ch (by intro hm; (have e0 := hm); omega)
                                        replace k16 := k16.ch y50.et.go.ch (by intro hm; (have e0 := hm); omega)
                                        replace hX := hX.trans y50
                                        replace U := U.cc y50.et.go.ch (by intro b hb; exact .inl trivial)
                                        refine l_nil ?_
                                        refine end0 rfl ?_
                                        have e9 : cpN m (argN f.stack 0) s.ret (argN f.stack 1) (argN f.stack 2) = m := if_pos y0
                                        rw [hms] at hX
                                        exact ⟨rfl, _, by rw [e9]; exact hX⟩))))))))))))))))))
theorem m_opCopy94 {w : World} {H : Store} {col : Nat → Nat} {bc : Nat} {cs : Array Value} {V : EV} {s : YSt} {sn : List Nat} {sv : List AW} {ms : List (List Nat)} {c : Nat} {low : List YF} {f : YF} (hE : EX w H col bc cs V s sn sv ms c) (hs : s.frames = low ++ [f]) (hp : s.phase = 1) {lo : List (List Nat)} {m : List Nat} (hms : ms = lo ++ [m]) (hq : opcN f = 94) (hpc9 : f.pc < 512) (htk9 : 3 ≤ f.stack.length) (hrl9 : s.ret.length ≤ 717280) (hr : argN f.stack 2 ≠ 0 → argN f.stack 0 + argN f.stack 2 ≤ m.length) (hrs : argN f.stack 2 ≠ 0 → argN f.stack 1 + argN f.stack 2 ≤ m.length) :
    Ret 195 [.pointer (some ⟨bc, 0, none⟩)] w (fun v w' => v = .tuple #[] ∧ ∃ cs', XT w H col w' H col bc cs' V { s with frames := low ++ [setF f 3 false 0 1] } sn sv (lo ++ [cpN m (argN f.stack 0) m (argN f.stack 1) (argN f.stack 2)]) c) := by
  obtain ⟨n9, hn9, hR⟩ := hE.topF hs
  have hB := hE.fbT hs
  have h6 := hE.six hs
  have htop := hE.cTop hs
  have hphs := hE.cPh hp
  have hbp := hB.pc
  have hbs := hB.stk
  have hbg := hB.gas
  have hbc9 := hB.code
  have hnw := hE.vl.new
  have hfz := hE.vl.fz
  have hcC := hE.vl.colC
  have hbc0 := hE.vl.kC.lt
  have hX := XT.refl hE
  have hmx := hE.memMx hms
  obtain ⟨ca9, cc9, ia9, ic9, hr5, hcode, hinp⟩ := hR.r5
  obtain ⟨ra9, rc9, hret9, hrb9⟩ := hE.lx.ret
  have hbi9 := hB.input
  refine enter (n := 105) Hvaa.func195 rfl rfl (Nat.le_of_ble_eq_true rfl) ?_
  have U : Ch (fun _ => True) w w := Ch.refl _ w
  refine c_seq (fun K1 hK1 => ?_)
  exact (by
    refine c_region ?_
    refine l_step (y_moveV (et g0 rfl)) ?_
    refine l_eff (e_callV cal_183 (aC (et g0 rfl) aN) (m_running hX.ex hs hp)) (fun v2 w2 h2 => ?_)
    obtain ⟨rfl, u2⟩ := h2
    replace hX := hX.up u2
    replace U := U.tr u2
    refine l_step (y_assignV (et g0 rfl)) ?_
    refine l_nil ?_
    refine hK1 _ _ ?_
    refine fg2 0 2 (gS rfl (gS rfl (gS rfl g0))) g0 (fun g => ?_)
    refine c_seq (fun K3 hK3 => ?_)
    refine c_seq (fun K4 hK4 => ?_)
    exact (by
      refine c_region ?_
      refine l_step (y_moveV (et g0 rfl)) ?_
      refine l_step (y_eqlNil Hvaa.underlying276 (et g0 rfl) rfl) ?_
      refine l_nil ?_
      refine hK4 _ _ ?_
      refine fg3 0 2 14 (gS rfl (gS rfl (gS rfl g0))) (gS rfl (gS rfl g0)) g0 (fun g => ?_)
      refine c_false (et g0 rfl) rfl ?_
      refine c_skip ?_
      refine hK3 _ _ ?_
      refine fg2 0 2 (gS rfl (gS rfl g0)) (gS rfl g0) (fun g => ?_)
      refine c_seq (fun K6 hK6 => ?_)
      exact (by
        refine c_region ?_
        refine l_step (y_moveV (et (gS rfl g0) rfl)) ?_
        refine l_step (y_moveV (et (gS rfl g0) rfl)) ?_
        refine l_eff (e_callV cal_264 (aC (et (gS rfl g0) rfl) (aC (et g0 rfl) (aC (v := .int .i64 ((0 : Nat) : Int)) rfl aN))) (m_arg hX.ex hs hp (by first | exact hpf | rfl) _ (by decide))) (fun v7 w7 h7 => ?_)
        obtain ⟨rfl, u7⟩ := h7
        replace hX := hX.up u7
        replace U := U.tr u7
        refine l_eff (e_alloc zr_65) (fun v8 w8 h8 => ?_)
        obtain ⟨b8, rfl, n8⟩ := h8
        have f8 : w.heap.size ≤ b8 := Nat.le_trans U.size n8.fresh
        replace hX := hX.up n8.up
        replace U := U.tr n8.up
        have k8 := n8.blk
        obtain ⟨zs8, hz8, k8⟩ : ∃ cs : Array Value, cs.size = 4 ∧ Blk w8 b8 cs := ⟨_, rfl, k8⟩
        have nc8 : col b8 = 0 := hnw _ f8
        refine l_effN (e_store sz_65 (et g0 rfl) (cellsV (et (gS rfl g0) rfl) rfl) rfl (by exact one_uL _) k8 (by (first | (rw [hz8]; exact Nat.le_refl _) | (rw [List.size_toArray, wL_len]; exact Nat.le_refl _)))) (fun v9 w9 h9 => ?_)
        obtain ⟨rfl, x9⟩ := h9
        replace hX := hX.ch x9.ch (by first | omega | (intro b hb; first | (subst hb; first | exact ⟨by omega, fun hh => by have := hfz.lt hh; omega, by omega⟩ | exact ⟨by omega, by assumption, by omega⟩) | (rcases hb with hb | hb <;> (subst hb; first | exact ⟨by omega, fun hh => by have := hfz.lt hh; omega, by omega⟩ | exact ⟨by omega, by assumption, by omega⟩))))
        replace k8 := x9.blk.full (by first | (rw [hz8]; rfl) | (rw [List.size_toArray, wL_len, wL_len]))
        replace U := U.st x9 (.inr f8)
        refine l_nil ?_
        refine hK6 _ _ ?_
        refine fg3 0 2 3 (gS rfl (gS rfl (gS rfl (gS rfl (gS rfl g0))))) (gS rfl (gS rfl (gS rfl (gS rfl g0)))) g0 (fun g => ?_)
        refine c_seq (fun K10 hK10 => ?_)
        exact (by
          refine c_region ?_
          refine l_step (y_moveV (et (gS rfl (gS rfl g0)) rfl)) ?_
          refine l_step (y_moveV (et (gS rfl (gS rfl g0)) rfl)) ?_
          refine l_eff (e_callV cal_264 (aC (et (gS rfl g0) rfl) (aC (et g0 rfl) (aC (v := .int .i64 ((1 : Nat) : Int)) rfl aN))) (m_arg hX.ex hs hp (by first | exact hpf | rfl) _ (by decide))) (fun v11 w11 h11 => ?_)
          obtain ⟨rfl, u11⟩ := h11
          replace k8 := k8.up u11
          replace hX := hX.up u11
          replace U := U.tr u11
          refine l_eff (e_alloc zr_65) (fun v12 w12 h12 => ?_)
          obtain ⟨b12, rfl, n12⟩ := h12
          have d8_12 : b8 < b12 := Nat.lt_of_lt_of_le k8.lt n12.fresh
          have f12 : w.heap.size ≤ b12 := Nat.le_trans U.size n12.fresh
          replace k8 := k8.up n12.up
          replace hX := hX.up n12.up
          replace U := U.tr n12.up
          have k12 := n12.blk
          obtain ⟨zs12, hz12, k12⟩ : ∃ cs : Array Value, cs.size = 4 ∧ Blk w12 b12 cs := ⟨_, rfl, k12⟩
          have nc12 : col b12 = 0 := hnw _ f12
          refine l_effN (e_store sz_65 (et g0 rfl) (cellsV (et (gS rfl g0) rfl) rfl) rfl (by exact one_uL _) k12 (by (first | (rw [hz12]; exact Nat.le_refl _) | (rw [List.size_toArray, wL_len]; exact Nat.le_refl _)))) (fun v13 w13 h13 => ?_)
          obtain ⟨rfl, x13⟩ := h13
          replace k8 := k8.ch x13.ch (by omega)
          replace hX := hX.ch x13.ch (by first | omega | (intro b hb; first | (subst hb; first | exact ⟨by omega, fun hh => by have := hfz.lt hh; omega, by omega⟩ | exact ⟨by omega, by assumption, by omega⟩) | (rcases hb with hb | hb <;> (subst hb; first | exact ⟨by omega, fun hh => by have := hfz.lt hh; omega, by omega⟩ | exact ⟨by omega, by assumption, by omega⟩))))
          replace k12 := x13.blk.full (by first | (rw [hz12]; rfl) | (rw [List.size_toArray, wL_len, wL_len]))
          replace U := U.st x13 (.inr f12)
          refine l_nil ?_
          refine hK10 _ _ ?_
          refine fg4 0 2 3 4 (gS rfl (gS rfl (gS rfl (gS rfl (gS rfl (gS rfl g0)))))) (gS rfl (gS rfl (gS rfl (gS rfl (gS rfl g0))))) (gS rfl (gS rfl (gS rfl (gS rfl g0)))) g0 (fun g => ?_)
          refine c_seq (fun K14 hK14 => ?_)
          exact (by
            refine c_region ?_
            refine l_step (y_moveV (et (gS rfl (gS rfl (gS rfl g0))) rfl)) ?_
            refine l_step (y_moveV (et (gS rfl (gS rfl (gS rfl g0))) rfl)) ?_
            refine l_eff (e_callV cal_264 (aC (et (gS rfl g0) rfl) (aC (et g0 rfl) (aC (v := .int .i64 ((2 : Nat) : Int)) rfl aN))) (m_arg hX.ex hs hp (by first | exact hpf | rfl) _ (by decide))) (fun v15 w15 h15 => ?_)
            obtain ⟨rfl, u15⟩ := h15
            replace k8 := k8.up u15
            replace k12 := k12.up u15
            replace hX := hX.up u15
            replace U := U.tr u15
            refine l_eff (e_alloc zr_65) (fun v16 w16 h16 => ?_)
            obtain ⟨b16, rfl, n16⟩ := h16
            have d8_16 : b8 < b16 := Nat.lt_of_lt_of_le k8.lt n16.fresh
            have d12_16 : b12 < b16 := Nat.lt_of_lt_of_le k12.lt n16.fresh
            have f16 : w.heap.size ≤ b16 := Nat.le_trans U.size n16.fresh
            replace k8 := k8.up n16.up
            replace k12 := k12.up n16.up
            replace hX := hX.up n16.up
            replace U := U.tr n16.up
            have k16 := n16.blk
            obtain ⟨zs16, hz16, k16⟩ : ∃ cs : Array Value, cs.size = 4 ∧ Blk w16 b16 cs := ⟨_, rfl, k16⟩
            have nc16 : col b16 = 0 := hnw _ f16
            refine l_effN (e_store sz_65 (et g0 rfl) (cellsV (et (gS rfl g0) rfl) rfl) rfl (by exact one_uL _) k16 (by (first | (rw [hz16]; exact Nat.le_refl _) | (rw [List.size_toArray, wL_len]; exact Nat.le_refl _)))) (fun v17 w17 h17 => ?_)
            obtain ⟨rfl, x17⟩ := h17
            replace k8 := k8.ch x17.ch (by omega)
            replace k12 := k12.ch x17.ch (by omega)
            replace hX := hX.ch x17.ch (by first | omega | (intro b hb; first | (subst hb; first | exact ⟨by omega, fun hh => by have := hfz.lt hh; omega, by omega⟩ | exact ⟨by omega, by assumption, by omega⟩) | (rcases hb with hb | hb <;> (subst hb; first | exact ⟨by omega, fun hh => by have := hfz.lt hh; omega, by omega⟩ | exact ⟨by omega, by assumption, by omega⟩))))
            replace k16 := x17.blk.full (by first | (rw [hz16]; rfl) | (rw [List.size_toArray, wL_len, wL_len]))
            replace U := U.st x17 (.inr f16)
            refine l_nil ?_
            refine hK14 _ _ ?_
            refine fg5 0 2 3 4 5 (gS rfl (gS rfl (gS rfl (gS rfl (gS rfl (gS rfl (gS rfl g0))))))) (gS rfl (gS rfl (gS rfl (gS rfl (gS rfl (gS rfl g0)))))) (gS rfl (gS rfl (gS rfl (gS rfl (gS rfl g0))))) (gS rfl (gS rfl (gS rfl (gS rfl g0)))) g0 (fun g => ?_)
            refine c_seq (fun K18 hK18 => ?_)
            exact (by
              refine c_region ?_
              refine l_step y_assignC ?_
              refine l_nil ?_
              refine hK18 _ _ ?_
              refine c_seq (fun K19 hK19 => ?_)
              exact (by
                refine c_region ?_
                refine l_step y_assignC ?_
                refine l_nil ?_
                refine hK19 _ _ ?_
                refine c_seq (fun K20 hK20 => ?_)
                exact (by
                  refine c_region ?_
                  refine l_step (y_moveV (et (gS rfl (gS rfl (gS rfl (gS rfl (gS rfl (gS rfl g0)))))) rfl)) ?_
                  refine l_eff (e_callV cal_108 (aC (et g0 rfl) aN) (m_opcode hX.ex hs hp)) (fun v21 w21 h21 => ?_)
                  obtain ⟨rfl, u21⟩ := h21
                  replace k8 := k8.up u21
                  replace k12 := k12.up u21
                  replace k16 := k16.up u21
                  replace hX := hX.up u21
                  replace U := U.tr u21
                  refine l_step (y_assignV (et g0 rfl)) ?_
                  refine l_nil ?_
                  refine hK20 _ _ ?_
                  refine fg8 0 2 3 4 5 6 7 8 (gS rfl (gS rfl (gS rfl (gS rfl (gS rfl (gS rfl (gS rfl (gS rfl (gS rfl g0))))))))) (gS rfl (gS rfl (gS rfl (gS rfl (gS rfl (gS rfl (gS rfl (gS rfl g0)))))))) (gS rfl (gS rfl (gS rfl (gS rfl (gS rfl (gS rfl (gS rfl g0))))))) (gS rfl (gS rfl (gS rfl (gS rfl (gS rfl (gS rfl g0)))))) (gS rfl (gS rfl (gS rfl (gS rfl (gS rfl g0))))) (gS rfl (gS rfl (gS rfl (gS rfl g0)))) (gS rfl (gS rfl (gS rfl g0))) g0 (fun g => ?_)
                  refine c_seq (fun K22 hK22 => ?_)
                  refine c_seq (fun K23 hK23 => ?_)
                  exact (by
                    refine c_region ?_
                    refine l_step (y_moveV (et g0 rfl)) ?_
                    refine l_nil ?_
                    refine hK23 _ _ ?_
                    refine c_block (fun Q24 hQ24 => ?_)
                    refine c_seq (fun K25 hK25 => ?_)
                    exact (by
                      refine c_region ?_
                      refine l_step (y_eql (et g0 rfl) rfl) ?_
                      refine l_step (y_assignV (et g0 rfl)) ?_
                      refine l_nil ?_
                      refine hK25 _ _ ?_
                      refine fg10 0 2 3 4 5 6 7 8 26 27 (gS rfl (gS rfl (gS rfl (gS rfl (gS rfl (gS rfl (gS rfl (gS rfl (gS rfl (gS rfl g0)))))))))) (gS rfl (gS rfl (gS rfl (gS rfl (gS rfl (gS rfl (gS rfl (gS rfl (gS rfl g0))))))))) (gS rfl (gS rfl (gS rfl (gS rfl (gS rfl (gS rfl (gS rfl (gS rfl g0)))))))) (gS rfl (gS rfl (gS rfl (gS rfl (gS rfl (gS rfl (gS rfl g0))))))) (gS rfl (gS rfl (gS rfl (gS rfl (gS rfl (gS rfl g0)))))) (gS rfl (gS rfl (gS rfl (gS rfl (gS rfl g0))))) (gS rfl (gS rfl (gS rfl (gS rfl g0)))) (gS rfl (gS rfl (gS rfl g0))) (gS rfl (gS rfl g0)) g0 (fun g => ?_)
                      refine c_false (et g0 rfl) (by (exact decide_eq_false (by omega))) ?_
                      refine c_seq (fun K27 hK27 => ?_)
                      exact (by
                        refine c_region ?_
                        refine l_step (y_eql (et (gS rfl g0) rfl) rfl) ?_
                        refine l_step (y_assignV (et g0 rfl)) ?_
                        refine l_nil ?_
                        refine hK27 _ _ ?_
                        refine fg10 0 2 3 4 5 6 7 8 26 33 (gS rfl (gS rfl (gS rfl (gS rfl (gS rfl (gS rfl (gS rfl (gS rfl (gS rfl (gS rfl (gS rfl g0))))))))))) (gS rfl (gS rfl (gS rfl (gS rfl (gS rfl (gS rfl (gS rfl (gS rfl (gS rfl (gS rfl g0)))))))))) (gS rfl (gS rfl (gS rfl (gS rfl (gS rfl (gS rfl (gS rfl (gS rfl (gS rfl g0))))))))) (gS rfl (gS rfl (gS rfl (gS rfl (gS rfl (gS rfl (gS rfl (gS rfl g0)))))))) (gS rfl (gS rfl (gS rfl (gS rfl (gS rfl (gS rfl (gS rfl g0))))))) (gS rfl (gS rfl (gS rfl (gS rfl (gS rfl (gS rfl g0)))))) (gS rfl (gS rfl (gS rfl (gS rfl (gS rfl g0))))) (gS rfl (gS rfl (gS rfl (gS rfl g0)))) (gS rfl (gS rfl (gS rfl g0))) g0 (fun g => ?_)
                        refine c_false (et g0 rfl) (by (exact decide_eq_false (by omega))) ?_
                        refine c_seq (fun K29 hK29 => ?_)
                        exact (by
                          refine c_region ?_
                          refine l_step (y_eql (et (gS rfl g0) rfl) rfl) ?_
                          refine l_step (y_assignV (et g0 rfl)) ?_
                          refine l_nil ?_
                          refine hK29 _ _ ?_
                          refine fg10 0 2 3 4 5 6 7 8 26 39 (gS rfl (gS rfl (gS rfl (gS rfl (gS rfl (gS rfl (gS rfl (gS rfl (gS rfl (gS rfl (gS rfl g0))))))))))) (gS rfl (gS rfl (gS rfl (gS rfl (gS rfl (gS rfl (gS rfl (gS rfl (gS rfl (gS rfl g0)))))))))) (gS rfl (gS rfl (gS rfl (gS rfl (gS rfl (gS rfl (gS rfl (gS rfl (gS rfl g0))))))))) (gS rfl (gS rfl (gS rfl (gS rfl (gS rfl (gS rfl (gS rfl (gS rfl g0)))))))) (gS rfl (gS rfl (gS rfl (gS rfl (gS rfl (gS rfl (gS rfl g0))))))) (gS rfl (gS rfl (gS rfl (gS rfl (gS rfl (gS rfl g0)))))) (gS rfl (gS rfl (gS rfl (gS rfl (gS rfl g0))))) (gS rfl (gS rfl (gS rfl (gS rfl g0)))) (gS rfl (gS rfl (gS rfl g0))) g0 (fun g => ?_)
                          refine c_false (et g0 rfl) (by (exact decide_eq_false (by omega))) ?_
                          refine c_seq (fun K31 hK31 => ?_)
                          exact (by
                            refine c_region ?_
                            refine l_step (y_eql (et (gS rfl g0) rfl) rfl) ?_
                            refine l_step (y_assignV (et g0 rfl)) ?_
                            refine l_nil ?_
                            refine hK31 _ _ ?_
                            refine fg9 0 2 3 4 5 6 7 8 45 (gS rfl (gS rfl (gS rfl (gS rfl (gS rfl (gS rfl (gS rfl (gS rfl (gS rfl (gS rfl (gS rfl g0))))))))))) (gS rfl (gS rfl (gS rfl (gS rfl (gS rfl (gS rfl (gS rfl (gS rfl (gS rfl (gS rfl g0)))))))))) (gS rfl (gS rfl (gS rfl (gS rfl (gS rfl (gS rfl (gS rfl (gS rfl (gS rfl g0))))))))) (gS rfl (gS rfl (gS rfl (gS rfl (gS rfl (gS rfl (gS rfl (gS rfl g0)))))))) (gS rfl (gS rfl (gS rfl (gS rfl (gS rfl (gS rfl (gS rfl g0))))))) (gS rfl (gS rfl (gS rfl (gS rfl (gS rfl (gS rfl g0)))))) (gS rfl (gS rfl (gS rfl (gS rfl (gS rfl g0))))) (gS rfl (gS rfl (gS rfl (gS rfl g0)))) g0 (fun g => ?_)
                            refine c_false (et g0 rfl) (by (exact decide_eq_false (by omega))) ?_
                            refine c_skip ?_
                            refine hQ24 _ _ _ (in_normal ?_)
                            refine hK22 _ _ ?_
                            refine fg8 0 2 3 4 5 6 7 8 (gS rfl (gS rfl (gS rfl (gS rfl (gS rfl (gS rfl (gS rfl (gS rfl g0)))))))) (gS rfl (gS rfl (gS rfl (gS rfl (gS rfl (gS rfl (gS rfl g0))))))) (gS rfl (gS rfl (gS rfl (gS rfl (gS rfl (gS rfl g0)))))) (gS rfl (gS rfl (gS rfl (gS rfl (gS rfl g0))))) (gS rfl (gS rfl (gS rfl (gS rfl g0)))) (gS rfl (gS rfl (gS rfl g0))) (gS rfl (gS rfl g0)) (gS rfl g0) (fun g => ?_)
                            refine c_seq (fun K33 hK33 => ?_)
                            exact (by
                              refine c_region ?_
                              refine l_step y_assignC ?_
                              refine l_nil ?_
                              refine hK33 _ _ ?_
                              refine c_seq (fun K34 hK34 => ?_)
                              refine c_seq (fun K35 hK35 => ?_)
                              exact (by
                                refine c_region ?_
                                refine l_step (y_moveV (et (gS rfl g0) rfl)) ?_
                                refine l_step (y_eql (et g0 rfl) rfl) ?_
                                refine l_nil ?_
                                refine hK35 _ _ ?_
                                refine fg9 0 2 3 4 5 6 7 10 67 (gS rfl (gS rfl (gS rfl (gS rfl (gS rfl (gS rfl (gS rfl (gS rfl (gS rfl (gS rfl g0)))))))))) (gS rfl (gS rfl (gS rfl (gS rfl (gS rfl (gS rfl (gS rfl (gS rfl (gS rfl g0))))))))) (gS rfl (gS rfl (gS rfl (gS rfl (gS rfl (gS rfl (gS rfl (gS rfl g0)))))))) (gS rfl (gS rfl (gS rfl (gS rfl (gS rfl (gS rfl (gS rfl g0))))))) (gS rfl (gS rfl (gS rfl (gS rfl (gS rfl (gS rfl g0)))))) (gS rfl (gS rfl (gS rfl (gS rfl (gS rfl g0))))) (gS rfl (gS rfl (gS rfl (gS rfl g0)))) (gS rfl (gS rfl g0)) g0 (fun g => ?_)
                                refine c_true (et g0 rfl) (by (exact decide_eq_true (by omega))) ?_
                                exact (by
                                  refine c_draw (SX _ bc) 15 [(0, true), (1, false), (2, true), (3, true), (4, true), (5, true), (6, true), (8, true), (10, true), (7, false), (9, false), (11, false), (12, false), (13, true), (14, true)] (by kernel_rfl) (fun w37 hu => ⟨SX.refl (hX.up hu), ?_⟩)
                                  replace k8 := k8.up hu
                                  replace k12 := k12.up hu
                                  replace k16 := k16.up hu
                                  replace hX := hX.up hu
                                  replace U := U.tr hu
                                  have SU := SX.refl hX
                                  have cq := cq_refl hX
                                  have hX_s := hX
                                  have k8_s := k8
                                  have k12_s := k12
                                  have k16_s := k16
                                  refine p_step (by exact rfl) (y_loadB agg_65 sz_65 (et (gS rfl (gS rfl (gS rfl (gS rfl g0)))) rfl) rfl (atXB k16_s (by omega))) ?_
                                  refine p_eff (by exact rfl) (e_callV cal_78 (aC (et g0 rfl) aN) (isZero_spec _ _ (argN_lt hB _))) (fun v38 w38 h38 => ?_)
                                  obtain ⟨rfl, u38⟩ := h38
                                  replace k8 := k8.up u38
                                  replace k12 := k12.up u38
                                  replace k16 := k16.up u38
                                  replace hX := hX.up u38
                                  replace U := U.tr u38
                                  refine ⟨.inr (SU.tr u38), ?_⟩
                                  replace SU := SU.tr u38
                                  refine p_step (by exact rfl) (y_moveV (et g0 rfl)) ?_
                                  refine gsplitP (i := 70) g0 (fun q39 => ?_) (fun q39 => ?_)
                                  · skip
                                    have y0 : argN f.stack 2 = 0 := of_decide_eq_true q39
                                    refine p_gskip (j := 2) (t := 70) (by exact rfl) (by exact rfl) (by exact rfl) (et g0 rfl) rfl rfl ?_
                                    refine p_gskip (j := 2) (t := 70) (by exact rfl) (by exact rfl) (by exact rfl) (et (gS rfl g0) rfl) rfl rfl ?_
                                    refine p_gskip (j := 2) (t := 70) (by exact rfl) (by exact rfl) (by exact rfl) (et (gS rfl (gS rfl g0)) rfl) rfl rfl ?_
                                    refine p_gskip (j := 2) (t := 70) (by exact rfl) (by exact rfl) (by exact rfl) (et (gS rfl (gS rfl (gS rfl g0))) rfl) rfl rfl ?_
                                    refine p_gskip (j := 2) (t := 70) (by exact rfl) (by exact rfl) (by exact rfl) (et (gS rfl (gS rfl (gS rfl (gS rfl g0)))) rfl) rfl rfl ?_
                                    refine p_gskip (j := 2) (t := 70) (by exact rfl) (by exact rfl) (by exact rfl) (et (gS rfl (gS rfl (gS rfl (gS rfl (gS rfl g0))))) rfl) rfl rfl ?_
                                    refine p_geskip (j := 2) (t := 70) (by exact rfl) (by exact rfl) (by exact rfl) (et (gS rfl (gS rfl (gS rfl (gS rfl (gS rfl (gS rfl g0)))))) rfl) rfl rfl ⟨.inr SU, ?_⟩
                                    refine p_geskip (j := 2) (t := 70) (by exact rfl) (by exact rfl) (by exact rfl) (et (gS rfl (gS rfl (gS rfl (gS rfl (gS rfl (gS rfl (gS rfl g0))))))) rfl) rfl rfl ⟨.inr SU, ?_⟩
                                    refine p_geskip (j := 2) (t := 70) (by exact rfl) (by exact rfl) (by exact rfl) (et (gS rfl (gS rfl (gS rfl (gS rfl (gS rfl (gS rfl (gS rfl (gS rfl g0)))))))) rfl) rfl rfl ⟨.inr SU, ?_⟩
                                    refine p_geskip (j := 2) (t := 70) (by exact rfl) (by exact rfl) (by exact rfl) (et (gS rfl (gS rfl (gS rfl (gS rfl (gS rfl (gS rfl (gS rfl (gS rfl (gS rfl g0))))))))) rfl) rfl rfl ⟨.inr SU, ?_⟩
                                    refine p_step (by exact rfl) (y_pickT (et (gS rfl (gS rfl (gS rfl (gS rfl (gS rfl (gS rfl (gS rfl (gS rfl (gS rfl (gS rfl g0)))))))))) rfl) rfl) ?_
                                    refine p_step (by exact rfl) (y_assignV (et g0 rfl)) ?_
                                    refine p_nil ?_
                                    refine hK34 _ _ ?_
                                    refine fg4 0 2 6 10 (gS rfl (gS rfl (gS rfl (gS rfl (gS rfl (gS rfl (gS rfl (gS rfl (gS rfl (gS rfl (gS rfl (gS rfl (gS rfl (gS rfl (gS rfl (gS rfl (gS rfl (gS rfl (gS rfl (gS rfl (gS rfl (gS rfl (gS rfl (gS rfl g0)))))))))))))))))))))))) (gS rfl (gS rfl (gS rfl (gS rfl (gS rfl (gS rfl (gS rfl (gS rfl (gS rfl (gS rfl (gS rfl (gS rfl (gS rfl (gS rfl (gS rfl (gS rfl (gS rfl (gS rfl (gS rfl (gS rfl (gS rfl (gS rfl (gS rfl g0))))))))))))))))))))))) (gS rfl (gS rfl (gS rfl (gS rfl (gS rfl (gS rfl (gS rfl (gS rfl (gS rfl (gS rfl (gS rfl (gS rfl (gS rfl (gS rfl (gS rfl (gS rfl (gS rfl (gS rfl (gS rfl g0))))))))))))))))))) g0 (fun g => ?_)
                                    refine c_seq (fun K40 hK40 => ?_)
                                    refine c_seq (fun K41 hK41 => ?_)
                                    exact (by
                                      refine c_region ?_
                                      refine l_step (y_moveV (et g0 rfl)) ?_
                                      refine l_step (y_not (et g0 rfl)) ?_
                                      refine l_nil ?_
                                      refine hK41 _ _ ?_
                                      refine fg4 0 2 6 97 (gS rfl (gS rfl (gS rfl (gS rfl (gS rfl g0))))) (gS rfl (gS rfl (gS rfl (gS rfl g0)))) (gS rfl (gS rfl (gS rfl g0))) g0 (fun g => ?_)
                                      refine c_false (et g0 rfl) rfl ?_
                                      refine c_skip ?_
                                      refine hK40 _ _ ?_
                                      refine fg3 0 2 6 (gS rfl (gS rfl (gS rfl g0))) (gS rfl (gS rfl g0)) (gS rfl g0) (fun g => ?_)
                                      exact (by
                                        refine c_region ?_
                                        refine l_step (y_moveV (et (gS rfl (gS rfl g0)) rfl)) ?_
                                        refine l_step (y_moveV (et (gS rfl (gS rfl g0)) rfl)) ?_
                                        refine l_step (y_moveV (et (gS rfl (gS rfl g0)) rfl)) ?_
                                        refine l_step (y_bld bN bld65_z) ?_
                                        refine l_eff (e_callV cal_259 (aC (et (gS rfl (gS rfl (gS rfl g0))) rfl) (aC (et (gS rfl (gS rfl g0)) rfl) (aC (et (gS rfl g0) rfl) (aC rfl (aC (et g0 rfl) (aC (v := .int .u16 ((1 : Nat) : Int)) rfl aN)))))) (m_settle0 hX.ex hs hp (by first | exact hpf | rfl) 3 0 1 (by omega) (by decide) (by omega))) (fun v43 w43 h43 => ?_)
                                        obtain ⟨rfl, cs43, y43⟩ := h43
                                        replace k8 := k8.ch y43.et.go.ch (by intro hm; (have e0 := hm); omega)
                                        replace k12 := k12.ch y43.et.go.ch (by intro hm; (have e0 := hm); omega)
                                        replace k16 := k16.ch y43.et.go.ch (by intro hm; (have e0 := hm); omega)
                                        replace hX := hX.trans y43
                                        replace U := U.cc y43.et.go.ch (by intro b hb; exact .inl trivial)
                                        refine l_nil ?_
                                        refine end0 rfl ?_
                                        have e9 : cpN m (argN f.stack 0) m (argN f.stack 1) (argN f.stack 2) = m := if_pos y0
                                        rw [hms] at hX
                                        exact ⟨rfl, _, by rw [e9]; exact hX⟩))
                                  · skip
                                    have y0 : argN f.stack 2 ≠ 0 := of_decide_eq_false q39
                                    have hr8 := hr y0
                                    have hr7 := hrs y0
                                    refine p_gstep (j := 2) (t := 70) (by exact rfl) (by exact rfl) (by exact rfl) (et g0 rfl) rfl (y_moveV (et (gS rfl (gS rfl (gS rfl (gS rfl (gS rfl (gS rfl (gS rfl (gS rfl (gS rfl (gS rfl (gS rfl (gS rfl g0)))))))))))) rfl)) ?_
                                    refine p_gstep (j := 2) (t := 70) (by exact rfl) (by exact rfl) (by exact rfl) (et (gS rfl g0) rfl) rfl (y_nil (et g0 rfl)) ?_
                                    refine p_gstep (j := 2) (t := 70) (by exact rfl) (by exact rfl) (by exact rfl) (et (gS rfl (gS rfl g0)) rfl) rfl (y_fld fld_75_1 (et g0 rfl)) ?_
                                    refine p_gstep (j := 2) (t := 70) (by exact rfl) (by exact rfl) (by exact rfl) (et (gS rfl (gS rfl (gS rfl g0))) rfl) rfl (y_loadB agg_65 sz_65 (et (gS rfl (gS rfl (gS rfl (gS rfl (gS rfl (gS rfl (gS rfl (gS rfl (gS rfl (gS rfl (gS rfl (gS rfl (gS rfl g0))))))))))))) rfl) rfl (atXB k8_s (by omega))) ?_
                                    refine p_gstep (j := 2) (t := 70) (by exact rfl) (by exact rfl) (by exact rfl) (et (gS rfl (gS rfl (gS rfl (gS rfl g0)))) rfl) rfl (y_loadB agg_65 sz_65 (et (gS rfl (gS rfl (gS rfl (gS rfl (gS rfl (gS rfl (gS rfl (gS rfl (gS rfl (gS rfl (gS rfl (gS rfl (gS rfl g0))))))))))))) rfl) rfl (atXB k12_s (by omega))) ?_
                                    refine p_gstep (j := 2) (t := 70) (by exact rfl) (by exact rfl) (by exact rfl) (et (gS rfl (gS rfl (gS rfl (gS rfl (gS rfl g0))))) rfl) rfl (y_loadB agg_65 sz_65 (et (gS rfl (gS rfl (gS rfl (gS rfl (gS rfl (gS rfl (gS rfl (gS rfl (gS rfl (gS rfl (gS rfl (gS rfl (gS rfl g0))))))))))))) rfl) rfl (atXB k16_s (by omega))) ?_
                                    refine p_geff (j := 2) (t := 70) (by exact rfl) (by exact rfl) (by exact rfl) (et (gS rfl (gS rfl (gS rfl (gS rfl (gS rfl (gS rfl g0)))))) rfl) rfl (e_callV cal_299 (aC (et (gS rfl (gS rfl g0)) rfl) aN) (m_small _ _ (by omega))) (fun v44 w44 h44 => ?_)
                                    obtain ⟨rfl, u44⟩ := h44
                                    replace k8 := k8.up u44
                                    replace k12 := k12.up u44
                                    replace k16 := k16.up u44
                                    replace hX := hX.up u44
                                    replace U := U.tr u44
                                    refine ⟨.inr (SU.tr u44), ?_⟩
                                    replace SU := SU.tr u44
                                    refine p_geff (j := 2) (t := 70) (by exact rfl) (by exact rfl) (by exact rfl) (et (gS rfl (gS rfl (gS rfl (gS rfl (gS rfl (gS rfl (gS rfl g0))))))) rfl) rfl (e_callV cal_299 (aC (et (gS rfl (gS rfl g0)) rfl) aN) (m_small _ _ (by omega))) (fun v45 w45 h45 => ?_)
                                    obtain ⟨rfl, u45⟩ := h45
                                    replace k8 := k8.up u45
                                    replace k12 := k12.up u45
                                    replace k16 := k16.up u45
                                    replace hX := hX.up u45
                                    replace U := U.tr u45
                                    refine ⟨.inr (SU.tr u45), ?_⟩
                                    replace SU := SU.tr u45
                                    refine p_geff (j := 2) (t := 70) (by exact rfl) (by exact rfl) (by exact rfl) (et (gS rfl (gS rfl (gS rfl (gS rfl (gS rfl (gS rfl (gS rfl (gS rfl g0)))))))) rfl) rfl (e_callV cal_299 (aC (et (gS rfl (gS rfl g0)) rfl) aN) (m_small _ _ (by omega))) (fun v46 w46 h46 => ?_)
                                    obtain ⟨rfl, u46⟩ := h46
                                    replace k8 := k8.up u46
                                    replace k12 := k12.up u46
                                    replace k16 := k16.up u46
                                    replace hX := hX.up u46
                                    replace U := U.tr u46
                                    refine ⟨.inr (SU.tr u46), ?_⟩
                                    replace SU := SU.tr u46
                                    exact (by
                                      refine p_geff (j := 2) (t := 70) (by exact rfl) (by exact rfl) (by exact rfl) (et (gS rfl (gS rfl (gS rfl (gS rfl (gS rfl (gS rfl (gS rfl (gS rfl (gS rfl g0))))))))) rfl) rfl (e_callV cal_298 (aC (et (gS rfl (gS rfl (gS rfl (gS rfl (gS rfl (gS rfl g0)))))) rfl) (aC (et (gS rfl (gS rfl g0)) rfl) (aC (et (gS rfl g0) rfl) (aC (et g0 rfl) aN)))) (hX.ex.mMv hms _ _ _ (by omega) (by omega) (by omega))) (fun v47 w47 h47 => ?_)
                                      obtain ⟨rfl, m47, z47⟩ := h47
                                      replace k8 := k8.ch z47 (by intro hm; (have e0 := hm); omega)
                                      replace k12 := k12.ch z47 (by intro hm; (have e0 := hm); omega)
                                      replace k16 := k16.ch z47 (by intro hm; (have e0 := hm); omega)
                                      replace hX := hX.mem z47 (fun b hb => hb) m47
                                      replace U := U.cc z47 (by intro b hb; exact .inl trivial)
                                      have cq9 := SU.ch.size
                                      replace SU := SU.xc z47 (hX.ex.vl.c1 hX.ex.lx.pS rfl) (by intro b hlt hb; have h9 := cq b hlt; have e0 := hb; first | omega | (dsimp only at e0; omega))
                                      refine ⟨.inr SU, ?_⟩
                                      refine p_step (by exact rfl) (y_pickF (et (gS rfl (gS rfl (gS rfl (gS rfl (gS rfl (gS rfl (gS rfl (gS rfl (gS rfl (gS rfl g0)))))))))) rfl) (et g0 rfl)) ?_
                                      refine p_step (by exact rfl) (y_assignV (et g0 rfl)) ?_
                                      refine p_nil ?_
                                      refine hK34 _ _ ?_
                                      refine fg4 0 2 6 10 (gS rfl (gS rfl (gS rfl (gS rfl (gS rfl (gS rfl (gS rfl (gS rfl (gS rfl (gS rfl (gS rfl (gS rfl (gS rfl (gS rfl (gS rfl (gS rfl (gS rfl (gS rfl (gS rfl (gS rfl (gS rfl (gS rfl (gS rfl (gS rfl g0)))))))))))))))))))))))) (gS rfl (gS rfl (gS rfl (gS rfl (gS rfl (gS rfl (gS rfl (gS rfl (gS rfl (gS rfl (gS rfl (gS rfl (gS rfl (gS rfl (gS rfl (gS rfl (gS rfl (gS rfl (gS rfl (gS rfl (gS rfl (gS rfl (gS rfl g0))))))))))))))))))))))) (gS rfl (gS rfl (gS rfl (gS rfl (gS rfl (gS rfl (gS rfl (gS rfl (gS rfl (gS rfl (gS rfl (gS rfl (gS rfl (gS rfl (gS rfl (gS rfl (gS rfl (gS rfl (gS rfl g0))))))))))))))))))) g0 (fun g => ?_)
                                      refine c_seq (fun K48 hK48 => ?_)
                                      refine c_seq (fun K49 hK49 => ?_)
                                      exact (by
                                        refine c_region ?_
                                        refine l_step (y_moveV (et g0 rfl)) ?_
                                        refine l_step (y_not (et g0 rfl)) ?_
                                        refine l_nil ?_
                                        refine hK49 _ _ ?_
                                        refine fg4 0 2 6 97 (gS rfl (gS rfl (gS rfl (gS rfl (gS rfl g0))))) (gS rfl (gS rfl (gS rfl (gS rfl g0)))) (gS rfl (gS rfl (gS rfl g0))) g0 (fun g => ?_)
                                        refine c_false (et g0 rfl) (by rfl) ?_
                                        refine c_skip ?_
                                        refine hK48 _ _ ?_
                                        refine fg3 0 2 6 (gS rfl (gS rfl (gS rfl g0))) (gS rfl (gS rfl g0)) (gS rfl g0) (fun g => ?_)
                                        exact (by
                                          refine c_region ?_
                                          refine l_step (y_moveV (et (gS rfl (gS rfl g0)) rfl)) ?_
                                          refine l_step (y_moveV (et (gS rfl (gS rfl g0)) rfl)) ?_
                                          refine l_step (y_moveV (et (gS rfl (gS rfl g0)) rfl)) ?_
                                          refine l_step (y_bld bN bld65_z) ?_
                                          refine l_eff (e_callV cal_259 (aC (et (gS rfl (gS rfl (gS rfl g0))) rfl) (aC (et (gS rfl (gS rfl g0)) rfl) (aC (et (gS rfl g0) rfl) (aC rfl (aC (et g0 rfl) (aC (v := .int .u16 ((1 : Nat) : Int)) rfl aN)))))) (m_settle0 hX.ex hs hp (by first | exact hpf | rfl) 3 0 1 (by omega) (by decide) (by omega))) (fun v51 w51 h51 => ?_)
                                          obtain ⟨rfl, cs51, y51⟩ := h51
                                          replace k8 := k8.ch y51.et.go.ch (by intro hm; (have e0 := hm); omega)
                                          replace k12 := k12.ch y51.et.go.ch (by intro hm; (have e0 := hm); omega)
                                          replace k16 := k16.ch y51.et.go.ch (by intro hm; (have e0 := hm); omega)
                                          replace hX := hX.trans y51
                                          replace U := U.cc y51.et.go.ch (by intro b hb; exact .inl trivial)
                                          refine l_nil ?_
                                          refine end0 rfl ?_
                                          have e9 : cpN m (argN f.stack 0) m (argN f.stack 1) (argN f.stack 2) = wrN m (argN f.stack 0) (cutN m (argN f.stack 1) (argN f.stack 2)) := if_neg y0
                                          exact ⟨rfl, _, by rw [e9]; exact hX⟩)))))))))))))))))))
end Go.Proofs.YgvaawGreat
