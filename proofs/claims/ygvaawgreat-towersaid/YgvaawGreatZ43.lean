import Derived.Test.YgvaawGreatZ42
set_option maxRecDepth 100000
set_option maxHeartbeats 4000000
set_option linter.unusedSimpArgs false
set_option linter.unusedVariables false
namespace Go.Proofs.YgvaawGreat
open Go
theorem rc_le (l : List Nat) (q : Nat) : rcN l q ≤ 22415 := by
  have k : ∀ a n, reachN a n ≤ 22415 := fun a n => by
    unfold reachN
    split
    · omega
    · split
      · exact wd_le (by assumption)
      · omega
  unfold rcN
  repeat' split
  all_goals first | exact k _ _ | exact Nat.max_le.2 ⟨k _ _, k _ _⟩ | omega
theorem dyn_le {s : YSt} {f : YF} {q : Nat} (hB : EFB f) (h : rbN f.stack q = true) : dynN s f q ≤ 6000000 := by
  have r := rb_len h
  have hn := nbytes_le (argN_lt hB 1)
  have a0 := acc_le s.now.warmA (yT f 0)
  have a1 := acc_le s.now.warmA (yT f 1)
  have dc : dstC s f ≤ 30000 := by
    unfold dstC
    by_cases e1 : yT f 0 ∈ s.now.warmA
    · rw [if_pos e1]; split <;> omega
    · rw [if_neg e1]; split <;> omega
  have vc : (if argN f.stack 2 ≠ 0 then 9000 + (if q = 241 ∧ emptyB (acctAt s.now.accts (yT f 1)) = true then 25000 else 0) else 0) ≤ 34000 := by
    by_cases e1 : argN f.stack 2 ≠ 0
    · rw [if_pos e1]; split <;> omega
    · rw [if_neg e1]; omega
  have sc := sCost_lt (yOrig s f) (yVal s f) (argN f.stack 1) (yCold s f)
  unfold dynN
  by_cases h1 : q = 10
  · rw [if_pos h1]
    omega
  rw [if_neg h1]
  by_cases h2 : q = 32
  · rw [if_pos h2]
    (have := wd_le (lo_le (r.h1 (.inl h2))); omega)
  rw [if_neg h2]
  by_cases h3 : q = 55 ∨ q = 57 ∨ q = 62 ∨ q = 94
  · rw [if_pos h3]
    (have := cp_le (lo_le (r.h2 (by omega))); omega)
  rw [if_neg h3]
  by_cases h4 : q = 49 ∨ q = 59 ∨ q = 63
  · rw [if_pos h4]
    omega
  rw [if_neg h4]
  by_cases h5 : q = 60
  · rw [if_pos h5]
    (have := cp_le (lo_le (r.h3 h5)); omega)
  rw [if_neg h5]
  by_cases h6 : 160 ≤ q ∧ q ≤ 164
  · rw [if_pos h6]
    (have := lo_le (r.h1 (.inr h6)); omega)
  rw [if_neg h6]
  by_cases h7 : q = 84
  · rw [if_pos h7]
    (split <;> omega)
  rw [if_neg h7]
  by_cases h8 : q = 85
  · rw [if_pos h8]
    omega
  rw [if_neg h8]
  by_cases h9 : q = 240
  · rw [if_pos h9]
    (have := wd_le (lo_le (r.h2 (by omega))); omega)
  rw [if_neg h9]
  by_cases h10 : q = 245
  · rw [if_pos h10]
    (have := wd_le (lo_le (r.h2 (by omega))); omega)
  rw [if_neg h10]
  by_cases h11 : q = 244 ∨ q = 250
  · rw [if_pos h11]
    omega
  rw [if_neg h11]
  by_cases h12 : q = 255
  · rw [if_pos h12]
    exact Nat.le_trans dc (by decide)
  rw [if_neg h12]
  by_cases h13 : q = 241 ∨ q = 242
  · rw [if_pos h13]
    exact Nat.le_trans (Nat.add_le_add a1 vc) (by decide)
  rw [if_neg h13]
  omega
theorem mem_le9 {n : Nat} (h : n ≤ 22415) : memN n ≤ 1100000 := by
  unfold memN
  have := Nat.mul_le_mul h h
  omega
/-- what the engine's checks from the fourth on say -/
def pcN (s : YSt) (f : YF) (q : Nat) : Nat := if flatN q = true then sgN q else sgN q + dynN s f q + (if f.mem.length / 32 < rcN f.stack q then memN (rcN f.stack q) - memN (f.mem.length / 32) else 0)
def psN (s : YSt) (f : YF) (q : Nat) : Nat :=
  if f.static = true ∧ wrtN f q = true then 7
  else if (q = 240 ∨ q = 245) ∧ 512 < argN f.stack 2 then 9
  else if q = 62 ∧ s.ret.length < argN f.stack 1 + argN f.stack 2 then 8
  else if flatN q = true then (if f.gas < sgN q then 2 else 0)
  else if rbN f.stack q = false then 2
  else if f.gas < pcN s f q ∨ (q = 85 ∧ f.gas ≤ 2300) then 2
  else if (q = 86 ∨ (q = 87 ∧ argN f.stack 1 ≠ 0)) ∧ destN f.code (argN f.stack 0) = false then 6
  else 0
def pmN (f : YF) (q : Nat) : List Nat := if flatN q = true then f.mem else if f.mem.length / 32 < rcN f.stack q then f.mem ++ List.replicate (32 * rcN f.stack q - f.mem.length) 0 else f.mem
section
variable {w0 w w' : World} {H0 H H' : Store} {col0 col col' : Nat → Nat} {bc : Nat} {cs cs' : Array Value} {V V' : EV} {s s' : YSt} {sn : List Nat} {sv : List AW} {ms ms' : List (List Nat)} {c c' : Nat} {low : List YF} {f u : YF}
theorem VL.col9 (h : VL w H col bc cs V) (hc : ∀ b, col' b = col b ∨ (col b = 0 ∧ col' b = 8 ∧ b < w.heap.size ∧ ¬ H.has b)) : VL w H col' bc cs V := by
  have e : ∀ b c0, c0 ≠ 0 → col b = c0 → col' b = c0 := fun b c0 h0 hb => by
    rcases hc b with h1 | h1
    · rw [h1]; exact hb
    · omega
  exact ⟨h.fz, h.kC, h.size, e _ 1 (by decide) h.colC, fun b hb => by
      rcases hc b with h1 | h1
      · rw [h1]; exact h.new b hb
      · omega, fun b hb => by
      rcases hc b with h1 | h1
      · rw [h1]; exact h.kept b hb
      · exact absurd hb h1.2.2.2, Part.col h.acc (fun b => e b 2 (by decide)), Part.col h.slo (fun b => e b 3 (by decide)), Part.col h.jou (fun b => e b 4 (by decide)), Part.col h.log (fun b => e b 5 (by decide)), Part.col h.tem (fun b => e b 6 (by decide)), TPart.col h.ttb (fun b => e b 7 (by decide)), h.atb, h.stb, h.mrk, h.nmk, h.ref, h.tb⟩
/-- the memory grows -/
theorem XT.growC {lo : List (List Nat)} {m : List Nat} (hX : XT w0 H0 col0 w H col bc cs V s sn sv ms c) (hms : ms = lo ++ [m]) (W : Nat) (hW : W ≤ 22415) (hWm : m.length < 32 * W) (h6 : lo.length ≤ 6) : Ret 272 [.pointer (some ⟨bc, 1, none⟩), .int .u32 (W : Nat)] w (fun v w' => v = .bool true ∧ ∃ col' cs', XT w0 H0 col0 w' H col' bc cs' V s sn sv (lo ++ [m ++ List.replicate (32 * W - m.length) 0]) c ∧ Ch (fun b => col b ≠ 0) w w') := by
  obtain ⟨bm, cm, n, hM⟩ := hX.ex.mx
  subst hms
  have hfr : lo.flatten.length ≤ 6 * 717280 := by
    have key : ∀ l : List (List Nat), (∀ m ∈ l, m.length ≤ 717280) → l.flatten.length ≤ l.length * 717280 := by
      intro l
      induction l with
      | nil => intro _; simp
      | cons a l ih =>
        intro hl
        have h1 := hl a (by simp)
        have h2 := ih (fun m hm => hl m (by simp [hm]))
        simp only [List.flatten_cons, List.length_append, List.length_cons]
        rw [Nat.add_mul]
        omega
    exact Nat.le_trans (key lo (fun m hm => hM.mx m (by simp [hm]))) (Nat.mul_le_mul_right 717280 h6)
  refine (g_grow hX.ex.vl.kC hM hX.ex.vl.colC W hW hWm hfr hX.ex.vl.size).mono fun v w' h => ?_
  obtain ⟨e, col', cs', bm', cm', n', h1, h2, h3, h4, h5⟩ := h
  have hC : ∀ b, (b = bc ∨ (b = bm ∧ col bm = 8)) → col b = 1 ∨ col b = 8 := fun b hb => by
    rcases hb with hb | hb
    · rw [hb]; exact .inl hX.ex.vl.colC
    · rw [hb.1]; exact .inr hb.2
  have hv1 : VL w' H col bc cs' V := by
    have hv := hX.ex.vl
    have hc : ∀ i, 2435 ≤ i → cs'[i]? = cs[i]? := fun i hi => h3.get i (.inr (by omega))
    have hM8 : ∀ b, (b = bc ∨ (b = bm ∧ col bm = 8)) → ∀ q, q ≠ 1 → q ≠ 8 → col b ≠ q := fun b hb q q1 q8 => by have := hC b hb; omega
    exact ⟨hv.fz.ch h4 (fun b hb hm => by have := hv.kept b hb; have := hC b hm; omega), h1, by rw [h3.size]; exact hv.size, hv.colC, fun b hb => hv.new b (Nat.le_trans h4.size hb), hv.kept, (Part.ch hv.acc h4 (fun b hb => hM8 b hb 2 (by decide) (by decide))).cs (hc _ (by decide)), (Part.ch hv.slo h4 (fun b hb => hM8 b hb 3 (by decide) (by decide))).cs (hc _ (by decide)), (Part.ch hv.jou h4 (fun b hb => hM8 b hb 4 (by decide) (by decide))).cs (hc _ (by decide)), (Part.ch hv.log h4 (fun b hb => hM8 b hb 5 (by decide) (by decide))).cs (hc _ (by decide)), (Part.ch hv.tem h4 (fun b hb => hM8 b hb 6 (by decide) (by decide))).cs (hc _ (by decide)), (TPart.ch hv.ttb h4 (fun b hb => hM8 b hb 7 (by decide) (by decide))).cs (hc _ (by decide)), fun p hp => by rw [hc _ (by omega)]; exact hv.atb p hp, fun p hp => by rw [hc _ (by omega)]; exact hv.stb p hp, fun i m hi => by rw [hc _ (by omega)]; exact hv.mrk i m hi, by rw [hc _ (by decide)]; exact hv.nmk, by rw [hc _ (by decide)]; exact hv.ref, by rw [hc _ (by decide)]; exact hv.tb⟩
  have hv2 := hv1.col9 (col' := col') (fun b => by
    rcases h5 b with h | h
    · exact .inl h
    · exact .inr ⟨hX.ex.vl.new b h.1, h.2.2.2, h.2.1, fun hh => by have := hX.ex.vl.fz.lt hh; omega⟩)
  have hch : Ch (fun b => col b ≠ 0) w w' := h4.mono (fun b _ hb => by have := hC b hb; omega)
  refine ⟨e, col', cs', ⟨⟨hv2, hX.ex.ok, hX.ex.lx.out h3 (.inr (by decide)), ⟨_, _, _, h2⟩, hX.ex.px⟩, ⟨⟨h4.mono (fun b _ hb => by have := hC b hb; omega) |> fun g => hX.et.go.ch.cc g (fun b hb => by
    by_cases hlt : b < w0.heap.size
    · left; rw [← hX.et.col b hlt]; exact hb
    · right; omega), hv2.fz, hX.et.go.le, hX.et.go.new⟩, fun b hb => by
      rcases h5 b with h | h
      · rw [h]; exact hX.et.col b hb
      · have := hX.et.go.ch.size; omega⟩⟩, hch⟩
end
end Go.Proofs.YgvaawGreat
