import Derived.Test.YgvaawGreatQ2
set_option maxRecDepth 100000
set_option linter.unusedSimpArgs false
set_option linter.unusedVariables false
namespace Go.Proofs.YgvaawGreat
open Go
/-! The machine's low cells between transactions. -/
structure LQ where
  rt : List Nat
  en : YEnv
  og : Nat
  pr : Nat
  ph : Nat
  ss : Nat
  ap : Nat
  li : Nat
  tg : Option Nat
  hd : Option Nat
  md : Nat
structure LO (H : Store) (cs : Array Value) (bc : Nat) (q : LQ) : Prop where
  size : cs.size = 27024
  pS : cs[0]? = some (.pointer (some ⟨bc, 2435, none⟩))
  top : cs[2258]? = some (.int .i8 (-1))
  ret : ∃ a c, cs[2259]? = some (.slice a q.rt.length c) ∧ BV H (.slice a q.rt.length c) q.rt
  env : EC H cs 2260 q.en
  org : RowIn cs 2380 (bL (be 20 q.og))
  prc : RowIn cs 2400 (wL q.pr)
  phs : cs[2404]? = some (.int .u8 (q.ph : Nat))
  sts : cs[2405]? = some (.int .u8 (q.ss : Nat))
  app : cs[2406]? = some (.int .u8 (q.ap : Nat))
  lim : cs[2407]? = some (.int .u64 (q.li : Nat))
  txg : ∀ n, q.tg = some n → cs[2408]? = some (.int .u64 (n : Nat))
  hld : ∀ n, q.hd = some n → RowIn cs 2409 (wL n)
  mad : RowIn cs 2415 (bL (be 20 q.md))
section
variable {H H' : Store} {cs cs' : Array Value} {bc : Nat} {q : LQ}
theorem EC.mono9 {o : Nat} {e : YEnv} (h : EC H cs o e) (hl : Le H H') : EC H' cs o e := h.mono hl
theorem LO.mono (h : LO H cs bc q) (hl : Le H H') : LO H' cs bc q := by
  obtain ⟨a, c, h1, h2⟩ := h.ret
  exact ⟨h.size, h.pS, h.top, ⟨a, c, h1, h2.mono hl⟩, h.env.mono hl, h.org, h.prc, h.phs, h.sts, h.app, h.lim, h.txg, h.hld, h.mad⟩
/-- cells of the stack, the frames, the memory or the vault turned -/
theorem LO.out {o k : Nat} (h : LO H cs bc q) (ho : Out cs cs' o k) (hd : 2435 ≤ o ∨ (1 ≤ o ∧ o + k ≤ 2258)) : LO H cs' bc q := by
  obtain ⟨a, c, h1, h2⟩ := h.ret
  exact ⟨ho.size.trans h.size, by rw [ho.get _ (by omega)]; exact h.pS, by rw [ho.get _ (by omega)]; exact h.top, ⟨a, c, by rw [ho.get _ (by omega)]; exact h1, h2⟩, h.env.out ho (by omega), ho.row h.org (by rw [length_bL, length_be]; omega), ho.row h.prc (by rw [wL_len]; omega), by rw [ho.get _ (by omega)]; exact h.phs, by rw [ho.get _ (by omega)]; exact h.sts, by rw [ho.get _ (by omega)]; exact h.app, by rw [ho.get _ (by omega)]; exact h.lim, fun n e => by rw [ho.get _ (by omega)]; exact h.txg n e, fun n e => ho.row (h.hld n e) (by rw [wL_len]; omega), ho.row h.mad (by rw [length_bL, length_be]; omega)⟩
theorem RowIn.spl_self {o : Nat} {vs : List Value} (hz : o + vs.length ≤ cs.size) : RowIn (spl cs o vs) o vs := fun i v hv => get_spl_in hz hv
theorem LO.stTop  (h : LO H cs bc q) : LO H (spl cs 2258 [.int .i8 (-1)]) bc q := by
  have hz := h.size
  have hl : ([.int .i8 (-1)] : List Value).length = 1 := by rfl
  have hO : Out cs (spl cs 2258 [.int .i8 (-1)]) 2258 1 := Out.spl (by omega) (Nat.le_refl _) (by omega)
  have hR : RowIn (spl cs 2258 [.int .i8 (-1)]) 2258 [.int .i8 (-1)] := RowIn.spl_self (by omega)
  obtain ⟨a, c, h1, h2⟩ := h.ret
  exact ⟨hO.size.trans hz, by rw [hO.get _ (by omega)]; exact h.pS, hR 0 _ rfl, ⟨a, c, by rw [hO.get _ (by omega)]; exact h1, h2⟩, h.env.out hO (by omega), hO.row h.org (by rw [length_bL, length_be]; omega), hO.row h.prc (by rw [wL_len]; omega), by rw [hO.get _ (by omega)]; exact h.phs, by rw [hO.get _ (by omega)]; exact h.sts, by rw [hO.get _ (by omega)]; exact h.app, by rw [hO.get _ (by omega)]; exact h.lim, fun m e => by rw [hO.get _ (by omega)]; exact h.txg m e, fun m e => hO.row (h.hld m e) (by rw [wL_len]; omega), hO.row h.mad (by rw [length_bL, length_be]; omega)⟩
theorem LO.stPh (n : Nat) (h : LO H cs bc q) : LO H (spl cs 2404 [.int .u8 (n : Nat)]) bc { q with ph := n } := by
  have hz := h.size
  have hl : ([.int .u8 (n : Nat)] : List Value).length = 1 := by rfl
  have hO : Out cs (spl cs 2404 [.int .u8 (n : Nat)]) 2404 1 := Out.spl (by omega) (Nat.le_refl _) (by omega)
  have hR : RowIn (spl cs 2404 [.int .u8 (n : Nat)]) 2404 [.int .u8 (n : Nat)] := RowIn.spl_self (by omega)
  obtain ⟨a, c, h1, h2⟩ := h.ret
  exact ⟨hO.size.trans hz, by rw [hO.get _ (by omega)]; exact h.pS, by rw [hO.get _ (by omega)]; exact h.top, ⟨a, c, by rw [hO.get _ (by omega)]; exact h1, h2⟩, h.env.out hO (by omega), hO.row h.org (by rw [length_bL, length_be]; omega), hO.row h.prc (by rw [wL_len]; omega), hR 0 _ rfl, by rw [hO.get _ (by omega)]; exact h.sts, by rw [hO.get _ (by omega)]; exact h.app, by rw [hO.get _ (by omega)]; exact h.lim, fun m e => by rw [hO.get _ (by omega)]; exact h.txg m e, fun m e => hO.row (h.hld m e) (by rw [wL_len]; omega), hO.row h.mad (by rw [length_bL, length_be]; omega)⟩
theorem LO.stSs (n : Nat) (h : LO H cs bc q) : LO H (spl cs 2405 [.int .u8 (n : Nat)]) bc { q with ss := n } := by
  have hz := h.size
  have hl : ([.int .u8 (n : Nat)] : List Value).length = 1 := by rfl
  have hO : Out cs (spl cs 2405 [.int .u8 (n : Nat)]) 2405 1 := Out.spl (by omega) (Nat.le_refl _) (by omega)
  have hR : RowIn (spl cs 2405 [.int .u8 (n : Nat)]) 2405 [.int .u8 (n : Nat)] := RowIn.spl_self (by omega)
  obtain ⟨a, c, h1, h2⟩ := h.ret
  exact ⟨hO.size.trans hz, by rw [hO.get _ (by omega)]; exact h.pS, by rw [hO.get _ (by omega)]; exact h.top, ⟨a, c, by rw [hO.get _ (by omega)]; exact h1, h2⟩, h.env.out hO (by omega), hO.row h.org (by rw [length_bL, length_be]; omega), hO.row h.prc (by rw [wL_len]; omega), by rw [hO.get _ (by omega)]; exact h.phs, hR 0 _ rfl, by rw [hO.get _ (by omega)]; exact h.app, by rw [hO.get _ (by omega)]; exact h.lim, fun m e => by rw [hO.get _ (by omega)]; exact h.txg m e, fun m e => hO.row (h.hld m e) (by rw [wL_len]; omega), hO.row h.mad (by rw [length_bL, length_be]; omega)⟩
theorem LO.stAp (n : Nat) (h : LO H cs bc q) : LO H (spl cs 2406 [.int .u8 (n : Nat)]) bc { q with ap := n } := by
  have hz := h.size
  have hl : ([.int .u8 (n : Nat)] : List Value).length = 1 := by rfl
  have hO : Out cs (spl cs 2406 [.int .u8 (n : Nat)]) 2406 1 := Out.spl (by omega) (Nat.le_refl _) (by omega)
  have hR : RowIn (spl cs 2406 [.int .u8 (n : Nat)]) 2406 [.int .u8 (n : Nat)] := RowIn.spl_self (by omega)
  obtain ⟨a, c, h1, h2⟩ := h.ret
  exact ⟨hO.size.trans hz, by rw [hO.get _ (by omega)]; exact h.pS, by rw [hO.get _ (by omega)]; exact h.top, ⟨a, c, by rw [hO.get _ (by omega)]; exact h1, h2⟩, h.env.out hO (by omega), hO.row h.org (by rw [length_bL, length_be]; omega), hO.row h.prc (by rw [wL_len]; omega), by rw [hO.get _ (by omega)]; exact h.phs, by rw [hO.get _ (by omega)]; exact h.sts, hR 0 _ rfl, by rw [hO.get _ (by omega)]; exact h.lim, fun m e => by rw [hO.get _ (by omega)]; exact h.txg m e, fun m e => hO.row (h.hld m e) (by rw [wL_len]; omega), hO.row h.mad (by rw [length_bL, length_be]; omega)⟩
theorem LO.stLi (n : Nat) (h : LO H cs bc q) : LO H (spl cs 2407 [.int .u64 (n : Nat)]) bc { q with li := n } := by
  have hz := h.size
  have hl : ([.int .u64 (n : Nat)] : List Value).length = 1 := by rfl
  have hO : Out cs (spl cs 2407 [.int .u64 (n : Nat)]) 2407 1 := Out.spl (by omega) (Nat.le_refl _) (by omega)
  have hR : RowIn (spl cs 2407 [.int .u64 (n : Nat)]) 2407 [.int .u64 (n : Nat)] := RowIn.spl_self (by omega)
  obtain ⟨a, c, h1, h2⟩ := h.ret
  exact ⟨hO.size.trans hz, by rw [hO.get _ (by omega)]; exact h.pS, by rw [hO.get _ (by omega)]; exact h.top, ⟨a, c, by rw [hO.get _ (by omega)]; exact h1, h2⟩, h.env.out hO (by omega), hO.row h.org (by rw [length_bL, length_be]; omega), hO.row h.prc (by rw [wL_len]; omega), by rw [hO.get _ (by omega)]; exact h.phs, by rw [hO.get _ (by omega)]; exact h.sts, by rw [hO.get _ (by omega)]; exact h.app, hR 0 _ rfl, fun m e => by rw [hO.get _ (by omega)]; exact h.txg m e, fun m e => hO.row (h.hld m e) (by rw [wL_len]; omega), hO.row h.mad (by rw [length_bL, length_be]; omega)⟩
theorem LO.stTg (n : Nat) (h : LO H cs bc q) : LO H (spl cs 2408 [.int .u64 (n : Nat)]) bc { q with tg := some n } := by
  have hz := h.size
  have hl : ([.int .u64 (n : Nat)] : List Value).length = 1 := by rfl
  have hO : Out cs (spl cs 2408 [.int .u64 (n : Nat)]) 2408 1 := Out.spl (by omega) (Nat.le_refl _) (by omega)
  have hR : RowIn (spl cs 2408 [.int .u64 (n : Nat)]) 2408 [.int .u64 (n : Nat)] := RowIn.spl_self (by omega)
  obtain ⟨a, c, h1, h2⟩ := h.ret
  exact ⟨hO.size.trans hz, by rw [hO.get _ (by omega)]; exact h.pS, by rw [hO.get _ (by omega)]; exact h.top, ⟨a, c, by rw [hO.get _ (by omega)]; exact h1, h2⟩, h.env.out hO (by omega), hO.row h.org (by rw [length_bL, length_be]; omega), hO.row h.prc (by rw [wL_len]; omega), by rw [hO.get _ (by omega)]; exact h.phs, by rw [hO.get _ (by omega)]; exact h.sts, by rw [hO.get _ (by omega)]; exact h.app, by rw [hO.get _ (by omega)]; exact h.lim, fun m e => by cases e; exact hR 0 _ rfl, fun m e => hO.row (h.hld m e) (by rw [wL_len]; omega), hO.row h.mad (by rw [length_bL, length_be]; omega)⟩
theorem LO.stHd (n : Nat) (h : LO H cs bc q) : LO H (spl cs 2409 (wL n)) bc { q with hd := some n } := by
  have hz := h.size
  have hl : ((wL n) : List Value).length = 4 := by rw [wL_len]
  have hO : Out cs (spl cs 2409 (wL n)) 2409 4 := Out.spl (by omega) (Nat.le_refl _) (by omega)
  have hR : RowIn (spl cs 2409 (wL n)) 2409 (wL n) := RowIn.spl_self (by omega)
  obtain ⟨a, c, h1, h2⟩ := h.ret
  exact ⟨hO.size.trans hz, by rw [hO.get _ (by omega)]; exact h.pS, by rw [hO.get _ (by omega)]; exact h.top, ⟨a, c, by rw [hO.get _ (by omega)]; exact h1, h2⟩, h.env.out hO (by omega), hO.row h.org (by rw [length_bL, length_be]; omega), hO.row h.prc (by rw [wL_len]; omega), by rw [hO.get _ (by omega)]; exact h.phs, by rw [hO.get _ (by omega)]; exact h.sts, by rw [hO.get _ (by omega)]; exact h.app, by rw [hO.get _ (by omega)]; exact h.lim, fun m e => by rw [hO.get _ (by omega)]; exact h.txg m e, fun m e => by cases e; exact hR, hO.row h.mad (by rw [length_bL, length_be]; omega)⟩
theorem LO.stPr (n : Nat) (h : LO H cs bc q) : LO H (spl cs 2400 (wL n)) bc { q with pr := n } := by
  have hz := h.size
  have hl : ((wL n) : List Value).length = 4 := by rw [wL_len]
  have hO : Out cs (spl cs 2400 (wL n)) 2400 4 := Out.spl (by omega) (Nat.le_refl _) (by omega)
  have hR : RowIn (spl cs 2400 (wL n)) 2400 (wL n) := RowIn.spl_self (by omega)
  obtain ⟨a, c, h1, h2⟩ := h.ret
  exact ⟨hO.size.trans hz, by rw [hO.get _ (by omega)]; exact h.pS, by rw [hO.get _ (by omega)]; exact h.top, ⟨a, c, by rw [hO.get _ (by omega)]; exact h1, h2⟩, h.env.out hO (by omega), hO.row h.org (by rw [length_bL, length_be]; omega), hR, by rw [hO.get _ (by omega)]; exact h.phs, by rw [hO.get _ (by omega)]; exact h.sts, by rw [hO.get _ (by omega)]; exact h.app, by rw [hO.get _ (by omega)]; exact h.lim, fun m e => by rw [hO.get _ (by omega)]; exact h.txg m e, fun m e => hO.row (h.hld m e) (by rw [wL_len]; omega), hO.row h.mad (by rw [length_bL, length_be]; omega)⟩
theorem LO.stOg (n : Nat) (h : LO H cs bc q) : LO H (spl cs 2380 (bL (be 20 n))) bc { q with og := n } := by
  have hz := h.size
  have hl : ((bL (be 20 n)) : List Value).length = 20 := by rw [length_bL, length_be]
  have hO : Out cs (spl cs 2380 (bL (be 20 n))) 2380 20 := Out.spl (by omega) (Nat.le_refl _) (by omega)
  have hR : RowIn (spl cs 2380 (bL (be 20 n))) 2380 (bL (be 20 n)) := RowIn.spl_self (by omega)
  obtain ⟨a, c, h1, h2⟩ := h.ret
  exact ⟨hO.size.trans hz, by rw [hO.get _ (by omega)]; exact h.pS, by rw [hO.get _ (by omega)]; exact h.top, ⟨a, c, by rw [hO.get _ (by omega)]; exact h1, h2⟩, h.env.out hO (by omega), hR, hO.row h.prc (by rw [wL_len]; omega), by rw [hO.get _ (by omega)]; exact h.phs, by rw [hO.get _ (by omega)]; exact h.sts, by rw [hO.get _ (by omega)]; exact h.app, by rw [hO.get _ (by omega)]; exact h.lim, fun m e => by rw [hO.get _ (by omega)]; exact h.txg m e, fun m e => hO.row (h.hld m e) (by rw [wL_len]; omega), hO.row h.mad (by rw [length_bL, length_be]; omega)⟩
theorem LO.stMd (n : Nat) (h : LO H cs bc q) : LO H (spl cs 2415 (bL (be 20 n))) bc { q with md := n } := by
  have hz := h.size
  have hl : ((bL (be 20 n)) : List Value).length = 20 := by rw [length_bL, length_be]
  have hO : Out cs (spl cs 2415 (bL (be 20 n))) 2415 20 := Out.spl (by omega) (Nat.le_refl _) (by omega)
  have hR : RowIn (spl cs 2415 (bL (be 20 n))) 2415 (bL (be 20 n)) := RowIn.spl_self (by omega)
  obtain ⟨a, c, h1, h2⟩ := h.ret
  exact ⟨hO.size.trans hz, by rw [hO.get _ (by omega)]; exact h.pS, by rw [hO.get _ (by omega)]; exact h.top, ⟨a, c, by rw [hO.get _ (by omega)]; exact h1, h2⟩, h.env.out hO (by omega), hO.row h.org (by rw [length_bL, length_be]; omega), hO.row h.prc (by rw [wL_len]; omega), by rw [hO.get _ (by omega)]; exact h.phs, by rw [hO.get _ (by omega)]; exact h.sts, by rw [hO.get _ (by omega)]; exact h.app, by rw [hO.get _ (by omega)]; exact h.lim, fun m e => by rw [hO.get _ (by omega)]; exact h.txg m e, fun m e => hO.row (h.hld m e) (by rw [wL_len]; omega), hR⟩
theorem LO.stA0 (v : Value) (h : LO H cs bc q) : LO H (spl cs 2413 [v]) bc q := by
  have hz := h.size
  have hl : ([v] : List Value).length = 1 := by rfl
  have hO : Out cs (spl cs 2413 [v]) 2413 1 := Out.spl (by omega) (Nat.le_refl _) (by omega)
  have hR : RowIn (spl cs 2413 [v]) 2413 [v] := RowIn.spl_self (by omega)
  obtain ⟨a, c, h1, h2⟩ := h.ret
  exact ⟨hO.size.trans hz, by rw [hO.get _ (by omega)]; exact h.pS, by rw [hO.get _ (by omega)]; exact h.top, ⟨a, c, by rw [hO.get _ (by omega)]; exact h1, h2⟩, h.env.out hO (by omega), hO.row h.org (by rw [length_bL, length_be]; omega), hO.row h.prc (by rw [wL_len]; omega), by rw [hO.get _ (by omega)]; exact h.phs, by rw [hO.get _ (by omega)]; exact h.sts, by rw [hO.get _ (by omega)]; exact h.app, by rw [hO.get _ (by omega)]; exact h.lim, fun m e => by rw [hO.get _ (by omega)]; exact h.txg m e, fun m e => hO.row (h.hld m e) (by rw [wL_len]; omega), hO.row h.mad (by rw [length_bL, length_be]; omega)⟩
theorem LO.stS0 (v : Value) (h : LO H cs bc q) : LO H (spl cs 2414 [v]) bc q := by
  have hz := h.size
  have hl : ([v] : List Value).length = 1 := by rfl
  have hO : Out cs (spl cs 2414 [v]) 2414 1 := Out.spl (by omega) (Nat.le_refl _) (by omega)
  have hR : RowIn (spl cs 2414 [v]) 2414 [v] := RowIn.spl_self (by omega)
  obtain ⟨a, c, h1, h2⟩ := h.ret
  exact ⟨hO.size.trans hz, by rw [hO.get _ (by omega)]; exact h.pS, by rw [hO.get _ (by omega)]; exact h.top, ⟨a, c, by rw [hO.get _ (by omega)]; exact h1, h2⟩, h.env.out hO (by omega), hO.row h.org (by rw [length_bL, length_be]; omega), hO.row h.prc (by rw [wL_len]; omega), by rw [hO.get _ (by omega)]; exact h.phs, by rw [hO.get _ (by omega)]; exact h.sts, by rw [hO.get _ (by omega)]; exact h.app, by rw [hO.get _ (by omega)]; exact h.lim, fun m e => by rw [hO.get _ (by omega)]; exact h.txg m e, fun m e => hO.row (h.hld m e) (by rw [wL_len]; omega), hO.row h.mad (by rw [length_bL, length_be]; omega)⟩
theorem LO.stRt {a : Option Addr} {k : Nat} {l : List Nat} (h : LO H cs bc q) (hB : BV H (.slice a l.length k) l) : LO H (spl cs 2259 [.slice a l.length k]) bc { q with rt := l } := by
  have hz := h.size
  have hO : Out cs (spl cs 2259 [.slice a l.length k]) 2259 1 := Out.spl (by simp only [List.length_cons, List.length_nil]; omega) (Nat.le_refl _) (by simp only [List.length_cons, List.length_nil]; omega)
  have hR : RowIn (spl cs 2259 [.slice a l.length k]) 2259 [.slice a l.length k] := RowIn.spl_self (by simp only [List.length_cons, List.length_nil]; omega)
  exact ⟨hO.size.trans hz, by rw [hO.get _ (by omega)]; exact h.pS, by rw [hO.get _ (by omega)]; exact h.top, ⟨a, k, hR 0 _ rfl, hB⟩, h.env.out hO (by omega), hO.row h.org (by rw [length_bL, length_be]; omega), hO.row h.prc (by rw [wL_len]; omega), by rw [hO.get _ (by omega)]; exact h.phs, by rw [hO.get _ (by omega)]; exact h.sts, by rw [hO.get _ (by omega)]; exact h.app, by rw [hO.get _ (by omega)]; exact h.lim, fun m e => by rw [hO.get _ (by omega)]; exact h.txg m e, fun m e => hO.row (h.hld m e) (by rw [wL_len]; omega), hO.row h.mad (by rw [length_bL, length_be]; omega)⟩
end
def qOf (s : YSt) (tg hd : Option Nat) : LQ := ⟨s.ret, s.env, s.origin, s.price, s.phase, s.status, s.applied, s.limit, tg, hd, s.made⟩
theorem LO.lx {H : Store} {cs : Array Value} {bc : Nat} {s : YSt} {tg hd : Option Nat} (h : LO H cs bc (qOf s tg hd)) (hf : s.frames = []) (hl : s.phase = 2 → cs[1803 + 7]? = some (.int .u64 (s.left : Nat))) : LX H cs bc s [] :=
  ⟨h.pS, by rw [hf]; decide, fun f h9 => by rw [hf] at h9; simp at h9, by rw [hf]; rfl, fun i f h9 => by rw [hf] at h9; simp at h9, fun i f n h9 => by rw [hf] at h9; simp at h9, by rw [hf]; exact h.top, h.ret, h.env, h.org, h.prc, h.phs, fun _ => h.sts, h.app, fun _ => h.lim, fun _ => h.mad, hl⟩
theorem LX.lo {H : Store} {cs : Array Value} {bc : Nat} {s : YSt} {sn : List Nat} (h : LX H cs bc s sn) (hz : cs.size = 27024) (hf : s.frames = []) (hp : s.phase = 2) : LO H cs bc (qOf s none none) :=
  ⟨hz, h.pS, by have := h.top; rw [hf] at this; exact this, h.ret, h.env, h.org, h.prc, h.phs, h.sts hp, h.app, h.lim (by omega), (fun n e => by cases e), (fun n e => by cases e), h.mad (by omega)⟩
end Go.Proofs.YgvaawGreat
