import Derived.Test.YgvaawGreatZ7
set_option maxRecDepth 100000
set_option maxHeartbeats 4000000
set_option linter.unusedSimpArgs false
set_option linter.unusedVariables false
namespace Go.Proofs.YgvaawGreat
open Go
def setF (f : YF) (tk : Nat) (b : Bool) (x st : Nat) : YF := { f with stack := f.stack.take (f.stack.length - tk) ++ (if b then [x] else []), pc := f.pc + st }
theorem EFB.stk' {f f1 : YF} {l : List Nat} (h : EFB f) (e : f1 = { f with stack := l }) (hl : l.length ≤ 64) (hw : ∀ y ∈ l, y < W256) : EFB f1 := by subst e; exact ⟨h.kind, h.ntv, h.pc, hl, hw, h.gas, h.self, h.caller, h.value, h.code, h.input, h.oo, h.ol, h.cdig, h.idig⟩
theorem EFB.pc' {f f1 : YF} {p : Nat} (h : EFB f) (e : f1 = { f with pc := p }) (hl : p ≤ 560) : EFB f1 := by subst e; exact ⟨h.kind, h.ntv, hl, h.stk, h.wrd, h.gas, h.self, h.caller, h.value, h.code, h.input, h.oo, h.ol, h.cdig, h.idig⟩
theorem EFB.gas' {f f1 : YF} {p : Nat} (h : EFB f) (e : f1 = { f with gas := p }) (hl : p ≤ 1048576) : EFB f1 := by subst e; exact ⟨h.kind, h.ntv, h.pc, h.stk, h.wrd, hl, h.self, h.caller, h.value, h.code, h.input, h.oo, h.ol, h.cdig, h.idig⟩
theorem EFB.oo' {f f1 : YF} {p : Nat} (h : EFB f) (e : f1 = { f with outOff := p }) (hl : p ≤ 717280) : EFB f1 := by subst e; exact ⟨h.kind, h.ntv, h.pc, h.stk, h.wrd, h.gas, h.self, h.caller, h.value, h.code, h.input, hl, h.ol, h.cdig, h.idig⟩
theorem EFB.ol' {f f1 : YF} {p : Nat} (h : EFB f) (e : f1 = { f with outLen := p }) (hl : p ≤ 717280) : EFB f1 := by subst e; exact ⟨h.kind, h.ntv, h.pc, h.stk, h.wrd, h.gas, h.self, h.caller, h.value, h.code, h.input, h.oo, hl, h.cdig, h.idig⟩
section
variable {w0 w w' : World} {H0 H : Store} {col0 col : Nat → Nat} {bc : Nat} {cs : Array Value} {V : EV} {s : YSt} {sn : List Nat} {sv : List AW} {ms : List (List Nat)} {c : Nat} {low : List YF} {f : YF}
theorem XT.stSP {o : Nat} {l : List Nat} (hX : XT w0 H0 col0 w H col bc cs V s sn sv ms c) (hs : s.frames = low ++ [f]) (hp : s.phase = 1) (ho : o = 1803 + 65 * low.length + 6) (hl : l.length ≤ 64) (hw : ∀ y ∈ l, y < W256) (hst : ∀ (j : Nat) y, l[j]? = some y → RowIn cs (11 + 4 * (64 * low.length + j)) (wL y)) (x : Wr w w' bc (spl cs o [.int .u16 (l.length : Nat)])) : XT w0 H0 col0 w' H col bc (spl cs o [.int .u16 (l.length : Nat)]) V { s with frames := low ++ [{ f with stack := l }] } sn sv ms c := by
  obtain ⟨n, hn, hR⟩ := hX.ex.topF hs
  have h6 := hX.ex.six hs
  exact hX.wrC x (hX.ex.frame hs hp hn x (by omega) (by simp only [List.length_cons, List.length_nil]; omega) ((hX.ex.fbT hs).stk' rfl hl hw) hst (hR.put hX.ex.vl.size h6 (j := 6) (by decide) ho rfl rfl rfl rfl rfl rfl rfl rfl) rfl rfl rfl (Nat.le_refl _))
theorem XT.oldStk (hX : XT w0 H0 col0 w H col bc cs V s sn sv ms c) (hs : s.frames = low ++ [f]) : ∀ (j : Nat) y, f.stack[j]? = some y → RowIn cs (11 + 4 * (64 * low.length + j)) (wL y) := fun j y hy => hX.ex.lx.stk low.length f (by rw [hs]; simp) j y hy
theorem XT.stPC {o p : Nat} (hX : XT w0 H0 col0 w H col bc cs V s sn sv ms c) (hs : s.frames = low ++ [f]) (hp : s.phase = 1) (ho : o = 1803 + 65 * low.length + 4) (hl : p ≤ 560) (x : Wr w w' bc (spl cs o [.int .u16 (p : Nat)])) : XT w0 H0 col0 w' H col bc (spl cs o [.int .u16 (p : Nat)]) V { s with frames := low ++ [{ f with pc := p }] } sn sv ms c := by
  obtain ⟨n, hn, hR⟩ := hX.ex.topF hs
  have h6 := hX.ex.six hs
  exact hX.wrC x (hX.ex.frame hs hp hn x (by omega) (by simp only [List.length_cons, List.length_nil]; omega) ((hX.ex.fbT hs).pc' rfl hl) (hX.oldStk (f := f) hs) (hR.put hX.ex.vl.size h6 (j := 4) (by decide) ho rfl rfl rfl rfl rfl rfl rfl rfl) rfl rfl rfl (Nat.le_refl _))
theorem XT.stGas {o p c' : Nat} (hX : XT w0 H0 col0 w H col bc cs V s sn sv ms c) (hs : s.frames = low ++ [f]) (hp : s.phase = 1) (ho : o = 1803 + 65 * low.length + 7) (hl : p ≤ 1048576) (hc : p + c' ≤ f.gas + c) (x : Wr w w' bc (spl cs o [.int .u64 (p : Nat)])) : XT w0 H0 col0 w' H col bc (spl cs o [.int .u64 (p : Nat)]) V { s with frames := low ++ [{ f with gas := p }] } sn sv ms c' := by
  obtain ⟨n, hn, hR⟩ := hX.ex.topF hs
  have h6 := hX.ex.six hs
  exact hX.wrC x (hX.ex.frame hs hp hn x (by omega) (by simp only [List.length_cons, List.length_nil]; omega) ((hX.ex.fbT hs).gas' rfl hl) (hX.oldStk (f := f) hs) (hR.put hX.ex.vl.size h6 (j := 7) (by decide) ho rfl rfl rfl rfl rfl rfl rfl rfl) rfl rfl rfl hc)
theorem XT.stOO {o p : Nat} (hX : XT w0 H0 col0 w H col bc cs V s sn sv ms c) (hs : s.frames = low ++ [f]) (hp : s.phase = 1) (ho : o = 1803 + 65 * low.length + 63) (hl : p ≤ 717280) (x : Wr w w' bc (spl cs o [.int .u32 (p : Nat)])) : XT w0 H0 col0 w' H col bc (spl cs o [.int .u32 (p : Nat)]) V { s with frames := low ++ [{ f with outOff := p }] } sn sv ms c := by
  obtain ⟨n, hn, hR⟩ := hX.ex.topF hs
  have h6 := hX.ex.six hs
  exact hX.wrC x (hX.ex.frame hs hp hn x (by omega) (by simp only [List.length_cons, List.length_nil]; omega) ((hX.ex.fbT hs).oo' rfl hl) (hX.oldStk (f := f) hs) (hR.put7 hX.ex.vl.size h6 (j := 0) (by decide) (by omega) rfl rfl rfl rfl rfl rfl rfl rfl rfl rfl rfl rfl) rfl rfl rfl (Nat.le_refl _))
theorem XT.stOL {o p : Nat} (hX : XT w0 H0 col0 w H col bc cs V s sn sv ms c) (hs : s.frames = low ++ [f]) (hp : s.phase = 1) (ho : o = 1803 + 65 * low.length + 64) (hl : p ≤ 717280) (x : Wr w w' bc (spl cs o [.int .u32 (p : Nat)])) : XT w0 H0 col0 w' H col bc (spl cs o [.int .u32 (p : Nat)]) V { s with frames := low ++ [{ f with outLen := p }] } sn sv ms c := by
  obtain ⟨n, hn, hR⟩ := hX.ex.topF hs
  have h6 := hX.ex.six hs
  exact hX.wrC x (hX.ex.frame hs hp hn x (by omega) (by simp only [List.length_cons, List.length_nil]; omega) ((hX.ex.fbT hs).ol' rfl hl) (hX.oldStk (f := f) hs) (hR.put7 hX.ex.vl.size h6 (j := 1) (by decide) (by omega) rfl rfl rfl rfl rfl rfl rfl rfl rfl rfl rfl rfl) rfl rfl rfl (Nat.le_refl _))
theorem LX.word {i p o y : Nat} {f : YF} (h : LX H cs bc s sn) (hz : cs.size = 27024) (hf : s.frames[i]? = some f) (hp : p < 64) (ho : o = 11 + 4 * (64 * i + p)) (hy : y < W256) : LX H (spl cs o (wL y)) bc { s with frames := s.frames.set i { f with stack := f.stack.set p y } } sn := by
  have hi := (List.getElem?_eq_some_iff.1 hf).1
  have h7 := h.n7
  have hO : Out cs (spl cs o (wL y)) o 4 := Out.spl (by rw [wL_len]; omega) (Nat.le_refl _) (by rw [wL_len]; exact Nat.le_refl _)
  obtain ⟨a, c, h1, h2⟩ := h.ret
  refine ⟨by rw [hO.get _ (by omega)]; exact h.pS, by show (s.frames.set i _).length ≤ 7; rw [List.length_set]; exact h.n7, fun q hq => ?_, by show sn.length = (s.frames.set i _).length; rw [List.length_set]; exact h.snl, fun q g hg j z hz2 => ?_, fun q g m hg hm => ?_, by rw [hO.get _ (by omega), h.top]; show _ = some (Value.int .i8 (((s.frames.set i _).length : Nat) - 1)); rw [List.length_set], ⟨a, c, by rw [hO.get _ (by omega)]; exact h1, h2⟩, h.env.out hO (by omega), hO.row h.org (by omega), hO.row h.prc (by omega), by rw [hO.get _ (by omega)]; exact h.phs, fun e => by rw [hO.get _ (by omega)]; exact h.sts e, by rw [hO.get _ (by omega)]; exact h.app, fun e => by rw [hO.get _ (by omega)]; exact h.lim e, fun e => hO.row (h.mad e) (by omega), fun e => by rw [hO.get _ (by omega)]; exact h.lft e⟩
  · rcases List.mem_or_eq_of_mem_set hq with hq | hq
    · exact h.fb q hq
    · rw [hq]
      have hb := h.fb f (List.mem_of_getElem? hf)
      exact hb.stk' rfl (by rw [List.length_set]; exact hb.stk) (fun z hz => by
        rcases List.mem_or_eq_of_mem_set hz with hz | hz
        · exact hb.wrd z hz
        · rw [hz]; exact hy)
  · have hg : (s.frames.set i { f with stack := f.stack.set p y })[q]? = some g := hg
    rw [List.getElem?_set] at hg
    by_cases e : i = q
    · subst e
      rw [if_pos rfl, if_pos hi] at hg
      cases hg
      have hz2 : (f.stack.set p y)[j]? = some z := hz2
      rw [List.getElem?_set] at hz2
      by_cases e2 : p = j
      · subst e2
        by_cases hpl : p < f.stack.length
        · rw [if_pos rfl, if_pos hpl] at hz2
          cases hz2
          rw [ho]
          exact RowIn.puts (by rw [wL_len]; omega)
        · rw [if_pos rfl, if_neg hpl] at hz2
          cases hz2
      · rw [if_neg e2] at hz2
        refine hO.row (h.stk i f hf j z hz2) ?_
        rw [wL_len]
        omega
    · rw [if_neg e] at hg
      refine hO.row (h.stk q g hg j z hz2) ?_
      have := (List.getElem?_eq_some_iff.1 hz2).1
      have := (h.fb g (List.mem_of_getElem? hg)).stk
      rw [wL_len]
      omega
  · have hg : (s.frames.set i { f with stack := f.stack.set p y })[q]? = some g := hg
    rw [List.getElem?_set] at hg
    by_cases e : i = q
    · subst e
      rw [if_pos rfl, if_pos hi] at hg
      cases hg
      have hr := (h.frm i f m hf hm).out hO (by omega)
      exact ⟨by show RowIn _ _ [_, _, _, _, _, _, .int .u16 ((f.stack.set p y).length : Nat), _, _]; rw [List.length_set]; exact hr.r1, hr.r2, hr.r3, hr.r4, hr.r5, hr.r6, hr.r7⟩
    · rw [if_neg e] at hg
      exact (h.frm q g m hg hm).out hO (by omega)
theorem XT.stW {p o y : Nat} (hX : XT w0 H0 col0 w H col bc cs V s sn sv ms c) (hs : s.frames = low ++ [f]) (hp : p < 64) (ho : o = 11 + 4 * (64 * low.length + p)) (hy : y < W256) (x : Wr w w' bc (spl cs o (wL y))) : XT w0 H0 col0 w' H col bc (spl cs o (wL y)) V { s with frames := low ++ [{ f with stack := f.stack.set p y }] } sn sv ms c := by
  have h6 := hX.ex.six hs
  have hE := hX.ex
  have hf : s.frames[low.length]? = some f := by rw [hs]; simp
  have hset : ∀ g, s.frames.set low.length g = low ++ [g] := fun g => by rw [hs, List.set_append_right (h := Nat.le_refl _), Nat.sub_self]; rfl
  have hlx := hE.lx.word hE.vl.size hf hp ho hy
  rw [hset] at hlx
  obtain ⟨bm, cm, n', hm⟩ := hE.mx
  have hz : o + (wL y).length ≤ cs.size := by rw [hE.vl.size, wL_len]; omega
  have hpx := hE.px
  refine hX.wrC x ⟨hE.vl.low x (by rw [wL_len]; omega), hE.ok, hlx, ⟨bm, cm, n', hm.low9 x hE.vl.colC (Out.spl (k := 4) hz (Nat.le_refl _) (by rw [wL_len]; exact Nat.le_refl _)) (by omega)⟩, ⟨hpx.va, fun i g m hg hm => ?_, hpx.inc, fun g hg => ?_, hpx.org, ?_⟩⟩
  · have hg : (low ++ [{ f with stack := f.stack.set p y }])[i]? = some g := hg
    by_cases hi : i < low.length
    · rw [List.getElem?_append_left hi] at hg
      exact hpx.snp i g m (by rw [hs, List.getElem?_append_left hi]; exact hg) hm
    · have hi2 : i = low.length := by
        have := (List.getElem?_eq_some_iff.1 hg).1
        simp at this
        omega
      subst hi2
      simp at hg
      subst hg
      exact hpx.snp low.length f m hf hm
  · have hg : g ∈ low ++ [{ f with stack := f.stack.set p y }] := hg
    rcases List.mem_append.1 hg with hg | hg
    · exact hpx.has g (by rw [hs]; exact List.mem_append_left _ hg)
    · simp at hg
      rw [hg]
      exact hpx.has f (by rw [hs]; simp)
  · have e : gasS { s with frames := low ++ [{ f with stack := f.stack.set p y }] } = gasS s := by rw [gas_top hs, gas_top (s := { s with frames := low ++ [{ f with stack := f.stack.set p y }] }) rfl]
    rw [e]
    exact hpx.pot
end
theorem m_settle1 {w : World} {H : Store} {col : Nat → Nat} {bc : Nat} {cs : Array Value} {V : EV} {s : YSt} {sn : List Nat} {sv : List AW} {ms : List (List Nat)} {c : Nat} {low : List YF} {f : YF} (hE : EX w H col bc cs V s sn sv ms c) (hs : s.frames = low ++ [f]) (hp : s.phase = 1) {pf : Nat} (hpf : pf = 1803 + 65 * low.length) (tk x st9 : Nat) (htk : tk ≤ f.stack.length) (hxx : x < W256) (hst9 : f.pc + st9 ≤ 560) (hlt9 : f.stack.length - tk < 64) :
    Ret 259 [.pointer (some ⟨bc, 0, none⟩), .pointer (some ⟨bc, pf, none⟩), .int .u16 (tk : Nat), .bool true, wV x, .int .u16 (st9 : Nat)] w (fun v w' => v = .tuple #[] ∧ ∃ cs', XT w H col w' H col bc cs' V { s with frames := low ++ [setF f tk true x st9] } sn sv ms c) := by
  obtain ⟨n9, hn9, hR⟩ := hE.topF hs
  have hB := hE.fbT hs
  have h6 := hE.six hs
  have htop := hE.cTop hs
  have hphs := hE.cPh hp
  have hbp := hB.pc
  have hbs := hB.stk
  have hbg := hB.gas
  have hbc9 := hB.code
  have hnw := hE.vl.new
  have hfz := hE.vl.fz
  have hcC := hE.vl.colC
  have hbc0 := hE.vl.kC.lt
  have hX := XT.refl hE
  refine enter (n := 65) Hvaa.func259 rfl rfl (Nat.le_of_ble_eq_true rfl) ?_
  have U : Ch (fun _ => True) w w := Ch.refl _ w
  refine c_seq (fun K1 hK1 => ?_)
  exact (by
    refine c_region ?_
    refine l_eff (e_boxV (et (gS rfl (gS rfl (gS rfl (gS rfl g0)))) rfl)) (fun v2 w2 h2 => ?_)
    obtain ⟨b2, rfl, n2⟩ := h2
    have f2 : w.heap.size ≤ b2 := Nat.le_trans U.size n2.fresh
    replace hX := hX.up n2.up
    replace U := U.tr n2.up
    have k2 := n2.blk
    have nc2 : col b2 = 0 := hnw _ f2
    refine l_nil ?_
    refine hK1 _ _ ?_
    refine fg6 5 3 2 1 0 10 (gS rfl (gS rfl (gS rfl (gS rfl (gS rfl (gS rfl g0)))))) (gS rfl (gS rfl (gS rfl (gS rfl g0)))) (gS rfl (gS rfl (gS rfl g0))) (gS rfl (gS rfl g0)) (gS rfl g0) g0 (fun g => ?_)
    refine c_seq (fun K3 hK3 => ?_)
    refine c_seq (fun K4 hK4 => ?_)
    exact (by
      refine c_region ?_
      refine l_step (y_moveV (et (gS rfl (gS rfl g0)) rfl)) ?_
      refine l_step (y_nil (et g0 rfl)) ?_
      refine l_step (y_fld fld_71_6 (et g0 rfl)) ?_
      refine l_step (y_load1 one_67 (et g0 rfl) (at1 (hX.ex.vl.c1 (hR.r1 6 _ rfl) (by omega)))) ?_
      refine l_step (y_moveV (et (gS rfl (gS rfl (gS rfl (gS rfl (gS rfl (gS rfl (gS rfl g0))))))) rfl)) ?_
      refine l_step (y_lss (et (gS rfl g0) rfl) (et g0 rfl)) ?_
      refine l_nil ?_
      refine hK4 _ _ ?_
      refine fg7 5 3 2 1 0 10 19 (gS rfl (gS rfl (gS rfl (gS rfl (gS rfl (gS rfl (gS rfl (gS rfl (gS rfl (gS rfl (gS rfl g0))))))))))) (gS rfl (gS rfl (gS rfl (gS rfl (gS rfl (gS rfl (gS rfl (gS rfl (gS rfl (gS rfl g0)))))))))) (gS rfl (gS rfl (gS rfl (gS rfl (gS rfl (gS rfl (gS rfl (gS rfl (gS rfl g0))))))))) (gS rfl (gS rfl (gS rfl (gS rfl (gS rfl (gS rfl (gS rfl (gS rfl g0)))))))) (gS rfl (gS rfl (gS rfl (gS rfl (gS rfl (gS rfl (gS rfl g0))))))) (gS rfl (gS rfl (gS rfl (gS rfl (gS rfl (gS rfl g0)))))) g0 (fun g => ?_)
      refine c_false (et g0 rfl) (by (exact decide_eq_false (by omega))) ?_
      refine c_skip ?_
      refine hK3 _ _ ?_
      refine fg6 5 3 2 1 0 10 (gS rfl (gS rfl (gS rfl (gS rfl (gS rfl (gS rfl g0)))))) (gS rfl (gS rfl (gS rfl (gS rfl (gS rfl g0))))) (gS rfl (gS rfl (gS rfl (gS rfl g0)))) (gS rfl (gS rfl (gS rfl g0))) (gS rfl (gS rfl g0)) (gS rfl g0) (fun g => ?_)
      refine c_seq (fun K6 hK6 => ?_)
      exact (by
        refine c_region ?_
        refine l_step (y_moveV (et (gS rfl (gS rfl g0)) rfl)) ?_
        refine l_step (y_nil (et g0 rfl)) ?_
        refine l_step (y_fld fld_71_6 (et g0 rfl)) ?_
        refine l_step (y_load1 one_67 (et g0 rfl) (at1 (hX.ex.vl.c1 (hR.r1 6 _ rfl) (by omega)))) ?_
        refine l_step (y_moveV (et (gS rfl (gS rfl (gS rfl (gS rfl (gS rfl (gS rfl (gS rfl g0))))))) rfl)) ?_
        refine l_step (y_sub (et (gS rfl g0) rfl) (et g0 rfl) (wrapU_subN uk16 ?_ ?_)) ?_
        omega
        omega
        refine l_step (y_assignV (et g0 rfl)) ?_
        refine l_nil ?_
        refine hK6 _ _ ?_
        refine fg6 5 3 1 0 10 12 (gS rfl (gS rfl (gS rfl (gS rfl (gS rfl (gS rfl (gS rfl (gS rfl (gS rfl (gS rfl (gS rfl (gS rfl g0)))))))))))) (gS rfl (gS rfl (gS rfl (gS rfl (gS rfl (gS rfl (gS rfl (gS rfl (gS rfl (gS rfl (gS rfl g0))))))))))) (gS rfl (gS rfl (gS rfl (gS rfl (gS rfl (gS rfl (gS rfl (gS rfl (gS rfl g0))))))))) (gS rfl (gS rfl (gS rfl (gS rfl (gS rfl (gS rfl (gS rfl (gS rfl g0)))))))) (gS rfl (gS rfl (gS rfl (gS rfl (gS rfl (gS rfl (gS rfl g0))))))) g0 (fun g => ?_)
        refine c_seq (fun K7 hK7 => ?_)
        refine c_seq (fun K8 hK8 => ?_)
        exact (by
          refine c_region ?_
          refine l_step (y_moveV (et (gS rfl (gS rfl (gS rfl (gS rfl g0)))) rfl)) ?_
          refine l_nil ?_
          refine hK8 _ _ ?_
          refine fg6 5 1 0 10 12 28 (gS rfl (gS rfl (gS rfl (gS rfl (gS rfl (gS rfl g0)))))) (gS rfl (gS rfl (gS rfl (gS rfl g0)))) (gS rfl (gS rfl (gS rfl g0))) (gS rfl (gS rfl g0)) (gS rfl g0) g0 (fun g => ?_)
          refine c_true (et g0 rfl) (by rfl) ?_
          refine c_seq (fun K10 hK10 => ?_)
          exact (by
            refine c_region ?_
            refine l_step (y_moveV (et (gS rfl (gS rfl (gS rfl (gS rfl g0)))) rfl)) ?_
            refine l_step (y_nil (et g0 rfl)) ?_
            refine l_step (y_fld fld_71_5 (et g0 rfl)) ?_
            refine l_step (y_load1 one_67 (et g0 rfl) (at1 (hX.ex.vl.c1 (hR.r1 5 _ rfl) (by omega)))) ?_
            refine l_step (y_conv Hvaa.underlying67 Hvaa.underlying3 (et g0 rfl) (wrap_i64 ?_ ?_)) ?_
            omega
            omega
            refine l_step (y_moveV (et (gS rfl (gS rfl (gS rfl (gS rfl (gS rfl (gS rfl g0)))))) rfl)) ?_
            refine l_step (y_conv Hvaa.underlying67 Hvaa.underlying3 (et g0 rfl) (wrap_i64 ?_ ?_)) ?_
            omega
            omega
            refine l_step (y_add (et (gS rfl (gS rfl g0)) rfl) (et g0 rfl) ((wrap_i64 ?_ ?_).trans (show _ = ((64 * low.length + (f.stack.length - tk) : Nat) : Int) by omega))) ?_
            omega
            omega
            refine l_step (y_assignV (et g0 rfl)) ?_
            refine l_nil ?_
            refine hK10 _ _ ?_
            refine fg6 5 1 0 10 12 13 (gS rfl (gS rfl (gS rfl (gS rfl (gS rfl (gS rfl (gS rfl (gS rfl (gS rfl (gS rfl (gS rfl (gS rfl (gS rfl (gS rfl g0)))))))))))))) (gS rfl (gS rfl (gS rfl (gS rfl (gS rfl (gS rfl (gS rfl (gS rfl (gS rfl (gS rfl (gS rfl (gS rfl (gS rfl g0))))))))))))) (gS rfl (gS rfl (gS rfl (gS rfl (gS rfl (gS rfl (gS rfl (gS rfl (gS rfl (gS rfl (gS rfl (gS rfl g0)))))))))))) (gS rfl (gS rfl (gS rfl (gS rfl (gS rfl (gS rfl (gS rfl (gS rfl (gS rfl (gS rfl (gS rfl g0))))))))))) (gS rfl (gS rfl (gS rfl (gS rfl (gS rfl (gS rfl (gS rfl (gS rfl (gS rfl (gS rfl g0)))))))))) g0 (fun g => ?_)
            refine c_seq (fun K11 hK11 => ?_)
            refine c_seq (fun K12 hK12 => ?_)
            exact (by
              refine c_region ?_
              refine l_step (y_moveV (et (gS rfl g0) rfl)) ?_
              refine l_step (y_geq (et g0 rfl) rfl) ?_
              refine l_step (y_moveV (et g0 rfl)) ?_
              refine gsplitL (i := 39) g0 (fun q13 => ?_) (fun q13 => ?_)
              · skip
                exact absurd (of_decide_eq_true q13) (by omega)
              · skip
                refine l_gstep (j := 2) (t := 39) (by exact rfl) (by exact rfl) (et g0 rfl) (by decide) (y_moveV (et (gS rfl (gS rfl (gS rfl (gS rfl g0)))) rfl)) ?_
                refine l_gstep (j := 2) (t := 39) (by exact rfl) (by exact rfl) (et (gS rfl g0) rfl) (by decide) (y_geq (et g0 rfl) rfl) ?_
                refine l_step (y_pickF (et (gS rfl (gS rfl g0)) rfl) (et g0 rfl)) ?_
                refine l_nil ?_
                refine hK12 _ _ ?_
                refine fg7 5 1 0 10 12 13 42 (gS rfl (gS rfl (gS rfl (gS rfl (gS rfl (gS rfl (gS rfl (gS rfl (gS rfl (gS rfl (gS rfl (gS rfl g0)))))))))))) (gS rfl (gS rfl (gS rfl (gS rfl (gS rfl (gS rfl (gS rfl (gS rfl (gS rfl (gS rfl (gS rfl g0))))))))))) (gS rfl (gS rfl (gS rfl (gS rfl (gS rfl (gS rfl (gS rfl (gS rfl (gS rfl (gS rfl g0)))))))))) (gS rfl (gS rfl (gS rfl (gS rfl (gS rfl (gS rfl (gS rfl (gS rfl (gS rfl g0))))))))) (gS rfl (gS rfl (gS rfl (gS rfl (gS rfl (gS rfl (gS rfl (gS rfl g0)))))))) (gS rfl (gS rfl (gS rfl (gS rfl (gS rfl (gS rfl (gS rfl g0))))))) g0 (fun g => ?_)
                refine c_false (et g0 rfl) (by (exact decide_eq_false (by omega))) ?_
                refine c_skip ?_
                refine hK11 _ _ ?_
                refine fg6 5 1 0 10 12 13 (gS rfl (gS rfl (gS rfl (gS rfl (gS rfl (gS rfl g0)))))) (gS rfl (gS rfl (gS rfl (gS rfl (gS rfl g0))))) (gS rfl (gS rfl (gS rfl (gS rfl g0)))) (gS rfl (gS rfl (gS rfl g0))) (gS rfl (gS rfl g0)) (gS rfl g0) (fun g => ?_)
                refine c_seq (fun K15 hK15 => ?_)
                exact (by
                  refine c_draw Up 6 [(0, true), (1, true), (2, true), (3, true), (4, true), (5, true), (6, false)] (by kernel_rfl) (fun w16 hu => ⟨Up.refl _, ?_⟩)
                  replace k2 := k2.up hu
                  replace hX := hX.up hu
                  replace U := U.tr hu
                  have SU := Up.refl w16
                  refine p_step (by exact rfl) (y_moveV (et (gS rfl (gS rfl (gS rfl g0))) rfl)) ?_
                  refine p_step (by exact rfl) (y_moveV (et (gS rfl g0) rfl)) ?_
                  refine p_step (by exact rfl) (y_loadB agg_65 sz_65 (et (gS rfl (gS rfl (gS rfl (gS rfl g0)))) rfl) rfl (atSB k2)) ?_
                  refine p_step (by exact rfl) (y_nil (et (gS rfl (gS rfl g0)) rfl)) ?_
                  refine p_step (by exact rfl) (y_fld fld_75_2 (et g0 rfl)) ?_
                  refine p_step (by exact rfl) (y_idxA Hvaa.underlying66 sz_65 (et g0 rfl) (et (gS rfl (gS rfl (gS rfl g0))) rfl) ?_ ?_) ?_
                  omega
                  omega
                  refine p_effN (by exact rfl) (e_store sz_65 (et g0 rfl) (cellsV (et (gS rfl (gS rfl (gS rfl g0))) rfl) rfl) rfl (by exact one_uL _) hX.ex.vl.kC (by rw [hX.ex.vl.size]; omega)) (fun v17 w17 h17 => ?_)
                  obtain ⟨rfl, x17⟩ := h17
                  have hv17 := hX.stW hs (p := (f.stack.length - tk)) (y := x) hlt9 (by omega) hxx x17
                  have hrw : RowIn (spl cs _ (wL x)) (11 + 4 * (64 * low.length + (f.stack.length - tk))) (wL x) := (RowIn.puts (o := 11 + (((64 * low.length + (f.stack.length - tk) : Nat) : Int)).toNat * 4) (by rw [hX.ex.vl.size, wL_len]; omega)).at0 (by omega)
                  replace k2 := k2.ch x17.ch (by intro hm; first | omega | (subst hm; omega))
                  replace hX := hv17
                  replace U := U.cc x17.ch (by intro b hb; exact .inl trivial)
                  obtain ⟨f1, hf1⟩ : ∃ f1 : YF, f1 = { f with stack := f.stack.set (f.stack.length - tk) x } := ⟨_, rfl⟩
                  rw [← hf1] at hX
                  have hs1 : ({ s with frames := low ++ [f1] } : YSt).frames = low ++ [f1] := rfl
                  refine ⟨.inl rfl, ?_⟩
                  refine p_nil ?_
                  refine hK15 _ _ ?_
                  refine fg3 5 1 12 (gS rfl (gS rfl (gS rfl (gS rfl (gS rfl (gS rfl (gS rfl (gS rfl (gS rfl (gS rfl (gS rfl g0))))))))))) (gS rfl (gS rfl (gS rfl (gS rfl (gS rfl (gS rfl (gS rfl (gS rfl (gS rfl (gS rfl g0)))))))))) (gS rfl (gS rfl (gS rfl (gS rfl (gS rfl (gS rfl (gS rfl g0))))))) (fun g => ?_)
                  refine c_region ?_
                  refine l_step (y_moveV (et g0 rfl)) ?_
                  refine l_step (y_add (et g0 rfl) rfl (wrapU_addN (b := 1) uk16 ?_)) ?_
                  omega
                  exact (by
                    refine l_step (y_assignV (et g0 rfl)) ?_
                    refine l_nil ?_
                    refine hK7 _ _ ?_
                    refine fg3 5 1 12 (gS rfl (gS rfl (gS rfl (gS rfl (gS rfl g0))))) (gS rfl (gS rfl (gS rfl (gS rfl g0)))) g0 (fun g => ?_)
                    refine c_seq (fun K18 hK18 => ?_)
                    exact (by
                      refine c_region ?_
                      refine l_step (y_moveV (et (gS rfl g0) rfl)) ?_
                      refine l_step (y_moveV (et (gS rfl g0) rfl)) ?_
                      refine l_step (y_nil (et (gS rfl g0) rfl)) ?_
                      refine l_step (y_fld fld_71_6 (et g0 rfl)) ?_
                      refine l_effN (e_store sz_67 (et g0 rfl) (cellsV (et (gS rfl (gS rfl g0)) rfl) rfl) rfl (by intro v hv; simp at hv; subst hv; rfl) hX.ex.vl.kC (by rw [hX.ex.vl.size]; omega)) (fun v19 w19 h19 => ?_)
                      obtain ⟨rfl, x19⟩ := h19
                      have hlen9 : (f.stack.take (f.stack.length - tk) ++ [x]).length = (f.stack.length - tk) + 1 := by rw [List.length_append, List.length_take, List.length_singleton]; omega
                      rw [← hlen9] at x19
                      have hv19 := hX.stSP hs1 hp (l := (f.stack.take (f.stack.length - tk) ++ [x])) (by omega) (by rw [List.length_append, List.length_take, List.length_singleton]; omega) (fun y hy => (List.mem_append.1 hy).elim (fun h9 => hB.wrd y (List.mem_of_mem_take h9)) (fun h9 => by simp at h9; rw [h9]; exact hxx)) (fun j y hy => by
                        rcases get_snoc hy with h9 | ⟨h9, h8⟩
                        · refine hX.oldStk hs1 j y ?_
                          rw [hf1]
                          show (f.stack.set _ x)[j]? = _
                          rw [List.getElem?_take] at h9
                          split at h9
                          · rename_i h7
                            rw [List.getElem?_set_ne (by omega)]
                            exact h9
                          · cases h9
                        · rw [List.length_take, Nat.min_eq_left (by omega)] at h9
                          rw [h9, h8]
                          exact hrw) x19
                      replace k2 := k2.ch x19.ch (by intro hm; first | omega | (subst hm; omega))
                      replace hX := hv19
                      replace U := U.cc x19.ch (by intro b hb; exact .inl trivial)
                      rw [hlen9] at hX
                      obtain ⟨f2, hf2⟩ : ∃ f2 : YF, f2 = { f1 with stack := (f.stack.take (f.stack.length - tk) ++ [x]) } := ⟨_, rfl⟩
                      rw [← hf2] at hX
                      have hs2 : ({ s with frames := low ++ [f2] } : YSt).frames = low ++ [f2] := rfl
                      obtain ⟨n8, hn8, hR2⟩ := hX.ex.topF hs2
                      have hf2p : f2.pc = f.pc := by rw [hf2]; show f1.pc = _; rw [hf1]
                      refine l_nil ?_
                      refine hK18 _ _ ?_
                      refine fg2 5 1 (gS rfl (gS rfl (gS rfl (gS rfl (gS rfl (gS rfl g0)))))) (gS rfl (gS rfl (gS rfl (gS rfl (gS rfl g0))))) (fun g => ?_)
                      refine c_region ?_
                      exact (by
                        refine l_step (y_moveV (et g0 rfl)) ?_
                        refine l_step (y_nil (et g0 rfl)) ?_
                        refine l_step (y_fld fld_71_4 (et g0 rfl)) ?_
                        refine l_step (y_load1 one_67 (et g0 rfl) (at1 (hX.ex.vl.c1 (hR2.r1 4 _ rfl) (by omega)))) ?_
                        refine l_step (y_moveV (et (gS rfl (gS rfl (gS rfl (gS rfl (gS rfl g0))))) rfl)) ?_
                        refine l_step (y_add (et (gS rfl g0) rfl) (et g0 rfl) (wrapU_addN uk16 ?_)) ?_
                        omega
                        refine l_step (y_nil (et (gS rfl (gS rfl (gS rfl (gS rfl (gS rfl g0))))) rfl)) ?_
                        refine l_step (y_fld fld_71_4 (et g0 rfl)) ?_
                        refine l_effN (e_store sz_67 (et g0 rfl) (cellsV (et (gS rfl (gS rfl g0)) rfl) rfl) rfl (by intro v hv; simp at hv; subst hv; rfl) hX.ex.vl.kC (by rw [hX.ex.vl.size]; omega)) (fun v20 w20 h20 => ?_)
                        obtain ⟨rfl, x20⟩ := h20
                        have hv20 := hX.stPC hs2 hp (by omega) (by omega) x20
                        replace k2 := k2.ch x20.ch (by intro hm; first | omega | (subst hm; omega))
                        replace hX := hv20
                        replace U := U.cc x20.ch (by intro b hb; exact .inl trivial)
                        refine l_nil ?_
                        refine end0 rfl ?_
                        have e9 : ({ f2 with pc := f2.pc + st9 } : YF) = setF f tk true x st9 := by unfold setF; rw [hf2, hf1]; rfl
                        rw [e9] at hX
                        exact ⟨rfl, _, hX⟩))))))))))
theorem m_settle0 {w : World} {H : Store} {col : Nat → Nat} {bc : Nat} {cs : Array Value} {V : EV} {s : YSt} {sn : List Nat} {sv : List AW} {ms : List (List Nat)} {c : Nat} {low : List YF} {f : YF} (hE : EX w H col bc cs V s sn sv ms c) (hs : s.frames = low ++ [f]) (hp : s.phase = 1) {pf : Nat} (hpf : pf = 1803 + 65 * low.length) (tk x st9 : Nat) (htk : tk ≤ f.stack.length) (hxx : x < W256) (hst9 : f.pc + st9 ≤ 560) :
    Ret 259 [.pointer (some ⟨bc, 0, none⟩), .pointer (some ⟨bc, pf, none⟩), .int .u16 (tk : Nat), .bool false, wV x, .int .u16 (st9 : Nat)] w (fun v w' => v = .tuple #[] ∧ ∃ cs', XT w H col w' H col bc cs' V { s with frames := low ++ [setF f tk false x st9] } sn sv ms c) := by
  obtain ⟨n9, hn9, hR⟩ := hE.topF hs
  have hB := hE.fbT hs
  have h6 := hE.six hs
  have htop := hE.cTop hs
  have hphs := hE.cPh hp
  have hbp := hB.pc
  have hbs := hB.stk
  have hbg := hB.gas
  have hbc9 := hB.code
  have hnw := hE.vl.new
  have hfz := hE.vl.fz
  have hcC := hE.vl.colC
  have hbc0 := hE.vl.kC.lt
  have hX := XT.refl hE
  refine enter (n := 65) Hvaa.func259 rfl rfl (Nat.le_of_ble_eq_true rfl) ?_
  have U : Ch (fun _ => True) w w := Ch.refl _ w
  refine c_seq (fun K1 hK1 => ?_)
  exact (by
    refine c_region ?_
    refine l_eff (e_boxV (et (gS rfl (gS rfl (gS rfl (gS rfl g0)))) rfl)) (fun v2 w2 h2 => ?_)
    obtain ⟨b2, rfl, n2⟩ := h2
    have f2 : w.heap.size ≤ b2 := Nat.le_trans U.size n2.fresh
    replace hX := hX.up n2.up
    replace U := U.tr n2.up
    have k2 := n2.blk
    have nc2 : col b2 = 0 := hnw _ f2
    refine l_nil ?_
    refine hK1 _ _ ?_
    refine fg6 5 3 2 1 0 10 (gS rfl (gS rfl (gS rfl (gS rfl (gS rfl (gS rfl g0)))))) (gS rfl (gS rfl (gS rfl (gS rfl g0)))) (gS rfl (gS rfl (gS rfl g0))) (gS rfl (gS rfl g0)) (gS rfl g0) g0 (fun g => ?_)
    refine c_seq (fun K3 hK3 => ?_)
    refine c_seq (fun K4 hK4 => ?_)
    exact (by
      refine c_region ?_
      refine l_step (y_moveV (et (gS rfl (gS rfl g0)) rfl)) ?_
      refine l_step (y_nil (et g0 rfl)) ?_
      refine l_step (y_fld fld_71_6 (et g0 rfl)) ?_
      refine l_step (y_load1 one_67 (et g0 rfl) (at1 (hX.ex.vl.c1 (hR.r1 6 _ rfl) (by omega)))) ?_
      refine l_step (y_moveV (et (gS rfl (gS rfl (gS rfl (gS rfl (gS rfl (gS rfl (gS rfl g0))))))) rfl)) ?_
      refine l_step (y_lss (et (gS rfl g0) rfl) (et g0 rfl)) ?_
      refine l_nil ?_
      refine hK4 _ _ ?_
      refine fg7 5 3 2 1 0 10 19 (gS rfl (gS rfl (gS rfl (gS rfl (gS rfl (gS rfl (gS rfl (gS rfl (gS rfl (gS rfl (gS rfl g0))))))))))) (gS rfl (gS rfl (gS rfl (gS rfl (gS rfl (gS rfl (gS rfl (gS rfl (gS rfl (gS rfl g0)))))))))) (gS rfl (gS rfl (gS rfl (gS rfl (gS rfl (gS rfl (gS rfl (gS rfl (gS rfl g0))))))))) (gS rfl (gS rfl (gS rfl (gS rfl (gS rfl (gS rfl (gS rfl (gS rfl g0)))))))) (gS rfl (gS rfl (gS rfl (gS rfl (gS rfl (gS rfl (gS rfl g0))))))) (gS rfl (gS rfl (gS rfl (gS rfl (gS rfl (gS rfl g0)))))) g0 (fun g => ?_)
      refine c_false (et g0 rfl) (by (exact decide_eq_false (by omega))) ?_
      refine c_skip ?_
      refine hK3 _ _ ?_
      refine fg6 5 3 2 1 0 10 (gS rfl (gS rfl (gS rfl (gS rfl (gS rfl (gS rfl g0)))))) (gS rfl (gS rfl (gS rfl (gS rfl (gS rfl g0))))) (gS rfl (gS rfl (gS rfl (gS rfl g0)))) (gS rfl (gS rfl (gS rfl g0))) (gS rfl (gS rfl g0)) (gS rfl g0) (fun g => ?_)
      refine c_seq (fun K6 hK6 => ?_)
      exact (by
        refine c_region ?_
        refine l_step (y_moveV (et (gS rfl (gS rfl g0)) rfl)) ?_
        refine l_step (y_nil (et g0 rfl)) ?_
        refine l_step (y_fld fld_71_6 (et g0 rfl)) ?_
        refine l_step (y_load1 one_67 (et g0 rfl) (at1 (hX.ex.vl.c1 (hR.r1 6 _ rfl) (by omega)))) ?_
        refine l_step (y_moveV (et (gS rfl (gS rfl (gS rfl (gS rfl (gS rfl (gS rfl (gS rfl g0))))))) rfl)) ?_
        refine l_step (y_sub (et (gS rfl g0) rfl) (et g0 rfl) (wrapU_subN uk16 ?_ ?_)) ?_
        omega
        omega
        refine l_step (y_assignV (et g0 rfl)) ?_
        refine l_nil ?_
        refine hK6 _ _ ?_
        refine fg6 5 3 1 0 10 12 (gS rfl (gS rfl (gS rfl (gS rfl (gS rfl (gS rfl (gS rfl (gS rfl (gS rfl (gS rfl (gS rfl (gS rfl g0)))))))))))) (gS rfl (gS rfl (gS rfl (gS rfl (gS rfl (gS rfl (gS rfl (gS rfl (gS rfl (gS rfl (gS rfl g0))))))))))) (gS rfl (gS rfl (gS rfl (gS rfl (gS rfl (gS rfl (gS rfl (gS rfl (gS rfl g0))))))))) (gS rfl (gS rfl (gS rfl (gS rfl (gS rfl (gS rfl (gS rfl (gS rfl g0)))))))) (gS rfl (gS rfl (gS rfl (gS rfl (gS rfl (gS rfl (gS rfl g0))))))) g0 (fun g => ?_)
        refine c_seq (fun K7 hK7 => ?_)
        refine c_seq (fun K8 hK8 => ?_)
        exact (by
          refine c_region ?_
          refine l_step (y_moveV (et (gS rfl (gS rfl (gS rfl (gS rfl g0)))) rfl)) ?_
          refine l_nil ?_
          refine hK8 _ _ ?_
          refine fg6 5 1 0 10 12 28 (gS rfl (gS rfl (gS rfl (gS rfl (gS rfl (gS rfl g0)))))) (gS rfl (gS rfl (gS rfl (gS rfl g0)))) (gS rfl (gS rfl (gS rfl g0))) (gS rfl (gS rfl g0)) (gS rfl g0) g0 (fun g => ?_)
          refine c_false (et g0 rfl) (by rfl) ?_
          refine c_skip ?_
          refine hK7 _ _ ?_
          refine fg3 5 1 12 (gS rfl (gS rfl (gS rfl (gS rfl (gS rfl g0))))) (gS rfl (gS rfl (gS rfl (gS rfl g0)))) (gS rfl g0) (fun g => ?_)
          refine c_seq (fun K10 hK10 => ?_)
          exact (by
            refine c_region ?_
            refine l_step (y_moveV (et (gS rfl g0) rfl)) ?_
            refine l_step (y_moveV (et (gS rfl g0) rfl)) ?_
            refine l_step (y_nil (et (gS rfl g0) rfl)) ?_
            refine l_step (y_fld fld_71_6 (et g0 rfl)) ?_
            refine l_effN (e_store sz_67 (et g0 rfl) (cellsV (et (gS rfl (gS rfl g0)) rfl) rfl) rfl (by intro v hv; simp at hv; subst hv; rfl) hX.ex.vl.kC (by rw [hX.ex.vl.size]; omega)) (fun v11 w11 h11 => ?_)
            obtain ⟨rfl, x11⟩ := h11
            have hlen9 : (f.stack.take (f.stack.length - tk)).length = (f.stack.length - tk) := by rw [List.length_take]; omega
            rw [← hlen9] at x11
            have hv11 := hX.stSP hs hp (l := (f.stack.take (f.stack.length - tk))) (by omega) (by rw [List.length_take]; omega) (fun y hy => hB.wrd y (List.mem_of_mem_take hy)) (fun j y hy => by
              rw [List.getElem?_take] at hy
              split at hy
              · exact hX.oldStk hs j y hy
              · cases hy) x11
            replace k2 := k2.ch x11.ch (by intro hm; first | omega | (subst hm; omega))
            replace hX := hv11
            replace U := U.cc x11.ch (by intro b hb; exact .inl trivial)
            rw [hlen9] at hX
            obtain ⟨f2, hf2⟩ : ∃ f2 : YF, f2 = { f with stack := (f.stack.take (f.stack.length - tk)) } := ⟨_, rfl⟩
            rw [← hf2] at hX
            have hs2 : ({ s with frames := low ++ [f2] } : YSt).frames = low ++ [f2] := rfl
            obtain ⟨n8, hn8, hR2⟩ := hX.ex.topF hs2
            have hf2p : f2.pc = f.pc := by rw [hf2]
            refine l_nil ?_
            refine hK10 _ _ ?_
            refine fg2 5 1 (gS rfl (gS rfl (gS rfl (gS rfl (gS rfl (gS rfl g0)))))) (gS rfl (gS rfl (gS rfl (gS rfl (gS rfl g0))))) (fun g => ?_)
            refine c_region ?_
            refine l_step (y_moveV (et g0 rfl)) ?_
            refine l_step (y_nil (et g0 rfl)) ?_
            refine l_step (y_fld fld_71_4 (et g0 rfl)) ?_
            refine l_step (y_load1 one_67 (et g0 rfl) (at1 (hX.ex.vl.c1 (hR2.r1 4 _ rfl) (by omega)))) ?_
            exact (by
              refine l_step (y_moveV (et (gS rfl (gS rfl (gS rfl (gS rfl (gS rfl g0))))) rfl)) ?_
              refine l_step (y_add (et (gS rfl g0) rfl) (et g0 rfl) (wrapU_addN uk16 ?_)) ?_
              omega
              refine l_step (y_nil (et (gS rfl (gS rfl (gS rfl (gS rfl (gS rfl g0))))) rfl)) ?_
              refine l_step (y_fld fld_71_4 (et g0 rfl)) ?_
              refine l_effN (e_store sz_67 (et g0 rfl) (cellsV (et (gS rfl (gS rfl g0)) rfl) rfl) rfl (by intro v hv; simp at hv; subst hv; rfl) hX.ex.vl.kC (by rw [hX.ex.vl.size]; omega)) (fun v12 w12 h12 => ?_)
              obtain ⟨rfl, x12⟩ := h12
              have hv12 := hX.stPC hs2 hp (by omega) (by omega) x12
              replace k2 := k2.ch x12.ch (by intro hm; first | omega | (subst hm; omega))
              replace hX := hv12
              replace U := U.cc x12.ch (by intro b hb; exact .inl trivial)
              refine l_nil ?_
              refine end0 rfl ?_
              have e9 : ({ f2 with pc := f2.pc + st9 } : YF) = setF f tk false x st9 := by unfold setF; rw [hf2]; simp
              rw [e9] at hX
              exact ⟨rfl, _, hX⟩))))))
end Go.Proofs.YgvaawGreat
