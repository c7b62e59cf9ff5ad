import Derived.Test.YgvaawGreatQ7
set_option maxRecDepth 100000
set_option maxHeartbeats 4000000
set_option linter.unusedSimpArgs false
set_option linter.unusedVariables false
namespace Go.Proofs.YgvaawGreat
open Go
theorem bld44_0 (n : Nat) (w : World) : (Instr.build 44 ([(0, .int .u8 (n : Nat))] : List (Nat × Value)).toArray).run Hvaa.prog w = .ok (.agg (rcC n 0 0 (.slice none 0 0) (.slice none 0 0) 0).toArray) w := by kernel_rfl
theorem e_begin0 {w : World} {H : Store} {col : Nat → Nat} {bc : Nat} {cs : Array Value} {V : EV} (hX : XR w H col w H col bc cs V []) (hF : Fz w H) {s : YSt} {tg hd : Option Nat} (hL : LO H cs bc (qOf s tg hd)) (hva : VA V (absY s.now) [] (slF s.now.accts)) (hi : II s) (hEI : EI V s) {txc : List Value} {T : YTx} (ht : TC H txc.toArray T) (htl : txc.length = 174) (hv0 : verdN s T = 0) : Ret 14 [.pointer (some ⟨bc, 0, none⟩), .agg txc.toArray] w (fun v w' => v = .int .u8 (0 : Nat) ∧ XO w H col w' bc (begY s T) 0) := by
  refine (x_open14 htl (R := fun w1 v w' => v = .int .u8 (0 : Nat) ∧ XO w1 H col w' bc (begY s T) 0) (fun w1 u => ?_) (fun w1 v w' u h => h.2.chc.mono (fun b _ hb => by
    left
    refine Nat.lt_of_not_le fun h9 => hb (hX.vl.new b h9)))).mono (fun v w' h => ?_)
  · have hX1 := hX.up u
    have hXr := XR.refl hX1.vl hX1.ok hX1.mx
    cases hc : T.create
    · exact e_openT hXr hX1.vl.fz hL hva hi hEI ht htl hv0 hc
    · exact e_openC hXr hX1.vl.fz hL hva hi hEI ht htl hv0 hc
  · obtain ⟨w1, u, h1, h2⟩ := h
    exact ⟨h1, XO.base (hX.up u).et h2⟩
theorem e_beginV {w : World} {H : Store} {col : Nat → Nat} {bc : Nat} {cs : Array Value} {V : EV} (hX : XR w H col w H col bc cs V []) (hF : Fz w H) {s : YSt} {tg hd : Option Nat} (hL : LO H cs bc (qOf s tg hd)) (hva : VA V (absY s.now) [] (slF s.now.accts)) (hi : II s) (hEI : EI V s) {txc : List Value} {T : YTx} (ht : TC H txc.toArray T) (htl : txc.length = 174) (hv0 : verdN s T ≠ 0) : Ret 14 [.pointer (some ⟨bc, 0, none⟩), .agg txc.toArray] w (fun v w' => v = .int .u8 (verdN s T : Nat) ∧ ∃ H', XR w H col w' H' col bc cs V [] ∧ LO H' cs bc (qOf s tg hd)) := by
  refine (x_open14 htl (R := fun w1 v w' => v = .int .u8 (verdN s T : Nat) ∧ ∃ H', XR w1 H col w' H' col bc cs V [] ∧ LO H' cs bc (qOf s tg hd)) (fun w1 u => ?_) (fun w1 v w' u h => ?_)).mono (fun v w' h => ?_)
  · have hX1 := hX.up u
    exact e_openV (XR.refl hX1.vl hX1.ok hX1.mx) hX1.vl.fz hL hva hi hEI ht htl hv0
  · obtain ⟨_, H', h1, _⟩ := h
    exact h1.et.go.ch.mono (fun b _ hb => by
      left
      refine Nat.lt_of_not_le fun h9 => hb (hX.vl.new b h9))
  · obtain ⟨w1, u, h1, H', h2, h3⟩ := h
    exact ⟨h1, H', (hX.up u).trans h2, h3⟩
def mu (s : YSt) : Nat := if s.phase = 1 then msr s + 1 else 0
theorem mu_lt {s s' : YSt} {low : List YF} {f : YF} (hp : s.phase = 1) (hs : s.frames = low ++ [f]) (h : s'.phase = 1 → msr s' < msr0 low f) : mu s' < mu s := by
  have e : msr s = msr0 low f := msr_top hs
  unfold mu
  rw [if_pos hp, e]
  split
  · rename_i h9
    have := h h9
    omega
  · omega
theorem e_stepA {w : World} {H : Store} {col : Nat → Nat} {bc : Nat} {cs : Array Value} {V : EV} {s : YSt} {sn : List Nat} {sv : List AW} (hE : EX w H col bc cs V s sn sv (s.frames.map (fun f => f.mem)) 0) (hi : IT s) : Ret 15 [.pointer (some ⟨bc, 0, none⟩)] w (fun v w' => ∃ b s2, v = .bool b ∧ XO w H col w' bc s2 0 ∧ (b = true → IT s2 ∧ (∀ n z, Rn n s2 z → ∃ m, Rn m s z) ∧ mu s2 < mu s) ∧ (b = false → s2 = s ∧ IE s)) := by
  rcases hi with ⟨low, f, hs, his⟩ | hie
  · have hB := hE.lx.fb f (by rw [hs]; simp)
    have hst := stepE_of his hs hB
    have h1 := m_step hE hs his.ph (by rw [hs]) his.b.ap (Par.of his.par) his.b.ret (c' := 0) (Nat.le_refl _) (chk_of hst.gm hst.ml hst.m32) (fun hn hr => ex_full hst (Nat.le_refl _) hn hr)
    refine (x_step15 h1 (fun v w' h => h.2.chc.mono (fun _ _ _ => trivial))).mono (fun v w' h => ?_)
    have hit := step_it his hB
    refine ⟨true, stepY s f low, h.1, h.2, fun _ => ⟨hit.1, fun n z hr => ⟨n + 1, Rn.step his hs (hE.pc his hs) hr⟩, mu_lt his.ph hs hit.2⟩, fun h9 => by cases h9⟩
  · have h1 := m_stepE hE hie.ph
    refine (x_step15 h1 (fun v w' h => h.2.ch)).mono (fun v w' h => ?_)
    refine ⟨false, s, h.1, XO.up ⟨H, col, cs, V, sn, sv, XT.refl hE⟩ h.2, (fun h9 => by cases h9), fun _ => ⟨rfl, hie⟩⟩
theorem e_applyV {w : World} {H : Store} {col : Nat → Nat} {bc : Nat} {cs : Array Value} {V : EV} (hX : XR w H col w H col bc cs V []) (hF : Fz w H) {s : YSt} {tg hd : Option Nat} (hL : LO H cs bc (qOf s tg hd)) (hva : VA V (absY s.now) [] (slF s.now.accts)) (hi : II s) (hEI : EI V s) {txc : List Value} {T : YTx} (ht : TC H txc.toArray T) (htl : txc.length = 174) (hv0 : verdN s T ≠ 0) :
    Ret 6 [.pointer (some ⟨bc, 0, none⟩), .agg txc.toArray] w (fun v w' => v = .agg (rcC (verdN s T) 0 0 (.slice none 0 0) (.slice none 0 0) 0).toArray ∧ ∃ H', XR w H col w' H' col bc cs V [] ∧ LO H' cs bc (qOf s tg hd)) := by
  have hnw := hX.vl.new
  have hfz := hX.vl.fz
  have hcC := hX.vl.colC
  refine enter (n := 17) Hvaa.func6 rfl rfl (Nat.le_of_ble_eq_true rfl) ?_
  have U : Ch (fun _ => True) w w := Ch.refl _ w
  refine c_seq (fun K1 hK1 => ?_)
  exact (by
    refine c_region ?_
    have hnwa := hX.vl.new
    have hfza := hX.vl.fz
    refine l_eff (e_boxV (et (gS rfl g0) rfl)) (fun v2 w2 h2 => ?_)
    obtain ⟨b2, rfl, n2⟩ := h2
    have f2 : w.heap.size ≤ b2 := Nat.le_trans U.size n2.fresh
    replace hX := hX.up n2.up
    replace U := U.tr n2.up
    have k2 := n2.blk
    replace k2 : Blk w2 b2 txc.toArray := k2
    have nc2 := hnwa b2 n2.fresh
    have nh2 : ¬ Store.has _ b2 := fun hh => by have h9 := hfza.lt hh; have h8 := n2.fresh; omega
    have hnwb := hX.vl.new
    have hfzb := hX.vl.fz
    refine l_eff (e_alloc zr_44) (fun v3 w3 h3 => ?_)
    obtain ⟨b3, rfl, n3⟩ := h3
    have d2_3 : b2 < b3 := Nat.lt_of_lt_of_le k2.lt n3.fresh
    have f3 : w.heap.size ≤ b3 := Nat.le_trans U.size n3.fresh
    replace k2 := k2.up n3.up
    replace hX := hX.up n3.up
    replace U := U.tr n3.up
    have k3 := n3.blk
    obtain ⟨zs3, hz3, k3⟩ : ∃ cs : Array Value, cs.size = 25 ∧ Blk w3 b3 cs := ⟨_, rfl, k3⟩
    have nc3 := hnwb b3 n3.fresh
    have nh3 : ¬ Store.has _ b3 := fun hh => by have h9 := hfzb.lt hh; have h8 := n3.fresh; omega
    refine l_nil ?_
    refine hK1 _ _ ?_
    refine fg3 0 3 4 (gS rfl (gS rfl g0)) (gS rfl g0) g0 (fun g => ?_)
    refine c_seq (fun K4 hK4 => ?_)
    refine c_seq (fun K5 hK5 => ?_)
    exact (by
      refine c_region ?_
      refine l_step (y_moveV (et (gS rfl (gS rfl g0)) rfl)) ?_
      refine l_step (y_loadB agg_41 sz_41 (et (gS rfl (gS rfl g0)) rfl) (by rw [List.size_toArray]; exact htl) (at1B k2)) ?_
      refine l_eff (e_callV cal_14 (aC (et (gS rfl g0) rfl) (aC (et g0 rfl) aN)) (e_beginV (XR.refl hX.vl hX.ok hX.mx) hX.vl.fz hL hva hi hEI ht htl hv0)) (fun v6 w6 h6 => ?_)
      obtain ⟨rfl, H6, y6, lo9⟩ := h6
      have nc2 := (y6.et.col b2 k2.lt).trans nc2
      have nh2 := y6.et.go.nb nh2 k2.lt
      have nc3 := (y6.et.col b3 k3.lt).trans nc3
      have nh3 := y6.et.go.nb nh3 k3.lt
      replace k2 := k2.ch y6.et.go.ch (by intro hm; (have e0 := hm); omega)
      replace k3 := k3.ch y6.et.go.ch (by intro hm; (have e0 := hm); omega)
      replace hX := hX.trans y6
      replace U := U.cc y6.et.go.ch (by intro b hb; exact .inl trivial)
      refine l_step (y_assignV (et g0 rfl)) ?_
      refine l_nil ?_
      refine hK5 _ _ ?_
      refine fg3 0 4 5 (gS rfl (gS rfl (gS rfl (gS rfl (gS rfl (gS rfl g0)))))) (gS rfl (gS rfl (gS rfl (gS rfl g0)))) g0 (fun g => ?_)
      refine c_seq (fun K7 hK7 => ?_)
      exact (by
        refine c_region ?_
        refine l_step (y_moveV (et g0 rfl)) ?_
        refine l_step (y_neq (et g0 rfl) rfl) ?_
        refine l_nil ?_
        refine hK7 _ _ ?_
        refine fg4 0 4 5 10 (gS rfl (gS rfl (gS rfl (gS rfl g0)))) (gS rfl (gS rfl (gS rfl g0))) (gS rfl (gS rfl g0)) g0 (fun g => ?_)
        refine c_true (et g0 rfl) (by (exact decide_eq_true (by omega))) ?_
        refine c_seq (fun K9 hK9 => ?_)
        exact (by
          refine c_region ?_
          refine l_step (y_moveV (et (gS rfl g0) rfl)) ?_
          refine l_step (y_bld (bC (et g0 rfl) bN) (bld44_0 _)) ?_
          refine l_effN (e_store sz_44 (et (gS rfl (gS rfl (gS rfl (gS rfl g0)))) rfl) (cellsV (et g0 rfl) rfl) rcC_len (by exact rc_one rfl rfl) k3 (by (rw [hz3]; exact Nat.le_refl _))) (fun v10 w10 h10 => ?_)
          obtain ⟨rfl, x10⟩ := h10
          replace k2 := k2.ch x10.ch (by omega)
          replace hX := hX.ch x10.ch (by first | omega | (intro b hb; first | (subst hb; first | exact ⟨by omega, fun hh => by have := hfz.lt hh; omega, by omega⟩ | exact ⟨by omega, by assumption, by omega⟩) | (rcases hb with hb | hb <;> (subst hb; first | exact ⟨by omega, fun hh => by have := hfz.lt hh; omega, by omega⟩ | exact ⟨by omega, by assumption, by omega⟩))))
          replace k3 := x10.blk.full (by rw [rcC_len, hz3])
          replace U := U.st x10 (.inr f3)
          refine l_nil ?_
          refine hK9 _ _ ?_
          refine fg1 4 (gS rfl (gS rfl (gS rfl (gS rfl g0)))) (fun g => ?_)
          refine c_ret ?_
          repeat with_reducible refine then_ret ?_
          refine ret1 rfl (res_blk agg_44 sz_44 (et g0 rfl) (by rw [List.size_toArray, rcC_len]) k3) ?_
          exact ⟨rfl, _, hX, lo9⟩))))
theorem e_apply0 {w : World} {H : Store} {col : Nat → Nat} {bc : Nat} {cs : Array Value} {V : EV} (hX : XR w H col w H col bc cs V []) (hF : Fz w H) {s : YSt} {tg hd : Option Nat} (hL : LO H cs bc (qOf s tg hd)) (hva : VA V (absY s.now) [] (slF s.now.accts)) (hi : II s) (hEI : EI V s) {txc : List Value} {T : YTx} (ht : TC H txc.toArray T) (htl : txc.length = 174) (hv0 : verdN s T = 0) :
    Ret 6 [.pointer (some ⟨bc, 0, none⟩), .agg txc.toArray] w (fun v w' => ∃ m z, Rn m (begY s T) z ∧ ApE w H col w' bc z v) := by
  have hnw := hX.vl.new
  have hfz := hX.vl.fz
  have hcC := hX.vl.colC
  refine enter (n := 17) Hvaa.func6 rfl rfl (Nat.le_of_ble_eq_true rfl) ?_
  have U : Ch (fun _ => True) w w := Ch.refl _ w
  refine c_seq (fun K1 hK1 => ?_)
  exact (by
    refine c_region ?_
    have hnwa := hX.vl.new
    have hfza := hX.vl.fz
    refine l_eff (e_boxV (et (gS rfl g0) rfl)) (fun v2 w2 h2 => ?_)
    obtain ⟨b2, rfl, n2⟩ := h2
    have f2 : w.heap.size ≤ b2 := Nat.le_trans U.size n2.fresh
    replace hX := hX.up n2.up
    replace U := U.tr n2.up
    have k2 := n2.blk
    replace k2 : Blk w2 b2 txc.toArray := k2
    have nc2 := hnwa b2 n2.fresh
    have nh2 : ¬ Store.has _ b2 := fun hh => by have h9 := hfza.lt hh; have h8 := n2.fresh; omega
    have hnwb := hX.vl.new
    have hfzb := hX.vl.fz
    refine l_eff (e_alloc zr_44) (fun v3 w3 h3 => ?_)
    obtain ⟨b3, rfl, n3⟩ := h3
    have d2_3 : b2 < b3 := Nat.lt_of_lt_of_le k2.lt n3.fresh
    have f3 : w.heap.size ≤ b3 := Nat.le_trans U.size n3.fresh
    replace k2 := k2.up n3.up
    replace hX := hX.up n3.up
    replace U := U.tr n3.up
    have k3 := n3.blk
    obtain ⟨zs3, hz3, k3⟩ : ∃ cs : Array Value, cs.size = 25 ∧ Blk w3 b3 cs := ⟨_, rfl, k3⟩
    have nc3 := hnwb b3 n3.fresh
    have nh3 : ¬ Store.has _ b3 := fun hh => by have h9 := hfzb.lt hh; have h8 := n3.fresh; omega
    refine l_nil ?_
    refine hK1 _ _ ?_
    refine fg3 0 3 4 (gS rfl (gS rfl g0)) (gS rfl g0) g0 (fun g => ?_)
    refine c_seq (fun K4 hK4 => ?_)
    refine c_seq (fun K5 hK5 => ?_)
    exact (by
      refine c_region ?_
      refine l_step (y_moveV (et (gS rfl (gS rfl g0)) rfl)) ?_
      refine l_step (y_loadB agg_41 sz_41 (et (gS rfl (gS rfl g0)) rfl) (by rw [List.size_toArray]; exact htl) (at1B k2)) ?_
      have hXa := hX.et
      have hXr := XR.refl hX.vl hX.ok hX.mx
      have hlt2 := k2.lt
      have hlt3 := k3.lt
      refine l_eff (e_callV cal_14 (aC (et (gS rfl g0) rfl) (aC (et g0 rfl) aN)) (e_begin0 hXr hXr.vl.fz hL hva hi hEI ht htl hv0)) (fun v6 w6 h6 => ?_)
      obtain ⟨rfl, hO6⟩ := h6
      replace k2 := k2.ch hO6.chc (by intro hm; (have e0 := hm); omega)
      replace k3 := k3.ch hO6.chc (by intro hm; (have e0 := hm); omega)
      replace hX := hO6
      replace U := U.cc hO6.chc (by intro b hb; exact .inl trivial)
      refine l_step (y_assignV (et g0 rfl)) ?_
      refine l_nil ?_
      refine hK5 _ _ ?_
      refine fg3 0 4 5 (gS rfl (gS rfl (gS rfl (gS rfl (gS rfl (gS rfl g0)))))) (gS rfl (gS rfl (gS rfl (gS rfl g0)))) g0 (fun g => ?_)
      refine c_seq (fun K7 hK7 => ?_)
      exact (by
        refine c_region ?_
        refine l_step (y_moveV (et g0 rfl)) ?_
        refine l_step (y_neq (et g0 rfl) rfl) ?_
        refine l_nil ?_
        refine hK7 _ _ ?_
        refine fg4 0 4 5 10 (gS rfl (gS rfl (gS rfl (gS rfl g0)))) (gS rfl (gS rfl (gS rfl g0))) (gS rfl (gS rfl g0)) g0 (fun g => ?_)
        refine c_false (et g0 rfl) (by rfl) ?_
        refine c_skip ?_
        refine hK4 _ _ ?_
        refine fg2 0 4 (gS rfl (gS rfl (gS rfl g0))) (gS rfl (gS rfl g0)) (fun g => ?_)
        refine c_seq (fun K9 hK9 => ?_)
        refine c_block (fun Q10 hQ10 => ?_)
        refine fg2 0 4 (gS rfl g0) g0 (fun g => ?_)
        refine c_loop (fun k_ s_ W11 => ∃ (g : Nat → Value) (s1 : YSt), s_ = (upd (upd g 0 (.pointer (some ⟨bc, 0, none⟩))) 4 (.pointer (some ⟨b3, 0, none⟩))) ∧ mu s1 = k_ ∧ (XO w3 H col W11 bc s1 0) ∧ (IT s1) ∧ (∀ n z, Rn n s1 z → ∃ m, Rn m (begY s T) z) ∧ (Blk W11 b3 (zs3))) (mu ((begY s T))) ?_ ?_
        · exact ⟨g, (begY s T), rfl, rfl, hX, beg_it hi (vd_of hv0) ht.ok, fun n z h => ⟨n, h⟩, k3⟩
        · skip
          intro k_ s_ W11 hI K11 hK11
          clear k3
          obtain ⟨g, s1, rfl, rfl, hX, hIT, hRn, k3⟩ := hI
          have U : Ch (fun _ => True) w W11 := (XO.base hXa hX).chc.mono (fun _ _ _ => trivial)
          obtain ⟨Hc, clc, csc, Vc, snc, svc, yt⟩ := hX
          refine c_seq (fun K12 hK12 => ?_)
          refine c_seq (fun K13 hK13 => ?_)
          exact (by
            refine c_region ?_
            refine l_step (y_moveV (et (gS rfl g0) rfl)) ?_
            refine l_eff (e_callV cal_15 (aC (et g0 rfl) aN) (e_stepA yt.ex hIT)) (fun v14 w14 h14 => ?_)
            obtain ⟨bb9, s2, rfl, hO14, hTt, hFl⟩ := h14
            have nd3 : clc b3 = 0 := (yt.et.col b3 hlt3).trans nc3
            replace k3 := k3.ch hO14.chc (by intro hm; (have e0 := hm); omega)
            replace hX := yt.xo hO14
            replace U := U.cc hO14.chc (by intro b hb; exact .inl trivial)
            refine l_nil ?_
            refine hK13 _ _ ?_
            refine fg3 0 4 14 (gS rfl (gS rfl (gS rfl g0))) (gS rfl (gS rfl g0)) g0 (fun g => ?_)
            refine c_cond (et g0 rfl) (fun cB2 => ?_) (fun cB2 => ?_)
            · skip
              
              have hTr := hTt cB2
              refine c_skip ?_
              refine hK12 _ _ ?_
              refine fg2 0 4 (gS rfl (gS rfl g0)) (gS rfl g0) (fun g => ?_)
              refine c_block (fun Q16 hQ16 => ?_)
              refine c_skip ?_
              refine hQ16 _ _ _ (in_normal ?_)
              refine fK2 0 4 (gS rfl g0) g0 (fun g => ?_)
              exact hK11 (mu (s2)) _ _ (by have h9 := hTr.2.2; omega) ⟨g, s2, rfl, rfl, hX, hTr.1, fun n z h9 => by obtain ⟨m9, h8⟩ := hTr.2.1 n z h9; exact hRn m9 z h8, k3⟩
            · skip
              
              obtain ⟨rfl, hie⟩ := hFl cB2
              refine c_exit ?_
              refine hQ10 _ _ _ (in_exit ?_)
              refine hK9 _ _ ?_
              refine fg2 0 4 (gS rfl (gS rfl g0)) (gS rfl g0) (fun g => ?_)
              refine c_seq (fun K17 hK17 => ?_)
              exact (by
                refine c_region ?_
                refine l_step (y_moveV (et (gS rfl g0) rfl)) ?_
                obtain ⟨Hd, cld, csd, Vd9, snd, svd, yd⟩ := hX
                replace yd : XT w3 H col w14 Hd cld bc csd Vd9 s2 snd svd [] 0 := by
                  have h9 := yd
                  rw [hie.fr] at h9
                  exact h9
                replace nc3 := (yd.et.col b3 hlt3).trans nc3
                replace nh3 := yd.et.go.nb nh3 hlt3
                obtain ⟨m9, hr9⟩ := hRn 0 s2 (Rn.done hie (lb_now (A := absY s2.now) hie.b.now.wf yd.ex.ok yd.ex.px.va))
                refine l_eff (e_callV cal_16 (aC (et g0 rfl) aN) (e_finish yd.ex hie)) (fun v18 w18 h18 => ?_)
                obtain ⟨H18, oa9, la9, oc9, lc9, cl18, cs18, V18, rfl, bo9, bl9, y18, lo9, va9, ei9⟩ := h18
                have nc3 := (y18.et.col b3 k3.lt).trans nc3
                have nh3 := y18.et.go.nb nh3 k3.lt
                replace k3 := k3.ch y18.et.go.ch (by intro hm; (have e0 := hm); omega)
                replace hX := XR.mk y18.vl y18.ok y18.mx ((hXa.trans yd.et).trans y18.et)
                replace U := U.cc y18.et.go.ch (by intro b hb; exact .inl trivial)
                refine l_effN (e_store sz_44 (et (gS rfl (gS rfl g0)) rfl) (cellsV (et g0 rfl) rfl) rcC_len (by exact rc_one rfl rfl) k3 (by (rw [hz3]; exact Nat.le_refl _))) (fun v19 w19 h19 => ?_)
                obtain ⟨rfl, x19⟩ := h19
                replace hX := hX.ch x19.ch (by first | omega | (intro b hb; first | (subst hb; first | exact ⟨by omega, fun hh => by have := hfz.lt hh; omega, by omega⟩ | exact ⟨by omega, by assumption, by omega⟩) | (rcases hb with hb | hb <;> (subst hb; first | exact ⟨by omega, fun hh => by have := hfz.lt hh; omega, by omega⟩ | exact ⟨by omega, by assumption, by omega⟩))))
                replace k3 := x19.blk.full (by rw [rcC_len, hz3])
                replace U := U.st x19 (.inr f3)
                refine l_nil ?_
                refine hK17 _ _ ?_
                refine fg1 4 (gS rfl (gS rfl g0)) (fun g => ?_)
                refine c_ret ?_
                repeat with_reducible refine then_ret ?_
                refine ret1 rfl (res_blk agg_44 sz_44 (et g0 rfl) (by rw [List.size_toArray, rcC_len]) k3) ?_
                exact ⟨m9, s2, hr9, _, oa9, la9, oc9, lc9, _, _, _, rfl, bo9, bl9, hX, lo9, va9, ei9⟩)))))
end Go.Proofs.YgvaawGreat
