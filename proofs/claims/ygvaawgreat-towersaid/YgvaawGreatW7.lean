import Derived.Test.YgvaawGreatW6
set_option maxRecDepth 100000
set_option linter.unusedSimpArgs false
set_option linter.unusedVariables false
namespace Go.Proofs.YgvaawGreat
open Go
/-! Exec, instruction by instruction, is the paper's plain step. -/
/-- what an instruction behind the checks may lean on; c is the gas that was paid, and more -/
structure OxH (s : YSt) (f : YF) (low : List YF) (q c c' : Nat) : Prop where
  hs : s.frames = low ++ [f]
  hp : s.phase = 1
  hap : s.applied ≤ 4
  hq : opcN f = q
  hpc : f.pc < 512
  tk : tkN q ≤ f.stack.length
  ov : f.stack.length - tkN q + gvN q ≤ 64
  org : s.origin < A160
  prc : s.price < W256
  rl : s.ret.length ≤ 717280
  mr : yReach f.stack q ≤ f.mem.length
  pay : c' + bareN s f q ≤ c
def OxS (bc q : Nat) (s : YSt) (f : YF) (low : List YF) (sn : List Nat) (sv : List AW) (c c' : Nat) : Prop := ∀ {w : World} {H : Store} {col : Nat → Nat} {cs : Array Value} {V : EV}, EX w H col bc cs V s sn sv (low.map (fun g => g.mem) ++ [f.mem]) c → Ret 111 [.pointer (some ⟨bc, 0, none⟩), .int .u8 (q : Nat)] w (fun v w' => v = .tuple #[] ∧ XO w H col w' bc { plS s f q with frames := low ++ [plF s f q] } c')
theorem XT.any {w0 w : World} {H0 H : Store} {col0 col : Nat → Nat} {bc : Nat} {cs : Array Value} {V : EV} {s : YSt} {sn : List Nat} {sv : List AW} {ms : List (List Nat)} {c : Nat} (h : XT w0 H0 col0 w H col bc cs V s sn sv ms c) : Ch (fun _ => True) w0 w := h.et.go.ch.mono (fun _ _ _ => trivial)
theorem ms_top {low : List YF} {f g : YF} {s : YSt} (h : g.mem = f.mem) : low.map (fun g => g.mem) ++ [f.mem] = ({ s with frames := low ++ [g] } : YSt).frames.map (fun g => g.mem) := by
  show _ = (low ++ [g]).map _
  rw [List.map_append, ← h]
  rfl
theorem XO.mem {w0 w : World} {H0 H : Store} {col0 col : Nat → Nat} {bc : Nat} {cs : Array Value} {V : EV} {s : YSt} {sn : List Nat} {sv : List AW} {low : List YF} {g : YF} {m : List Nat} {c : Nat} (h : XT w0 H0 col0 w H col bc cs V { s with frames := low ++ [g] } sn sv (low.map (fun g => g.mem) ++ [m]) c) : XO w0 H0 col0 w bc { s with frames := low ++ [{ g with mem := m }] } c := by
  have h1 := h.remem (low := low) (f := g) rfl m
  refine XO.of h1 ?_
  show _ = (low ++ [{ g with mem := m }]).map _
  rw [List.map_append]
  rfl
theorem set0 (f : YF) (tk : Nat) : setF f tk false 0 1 = { f with stack := f.stack.take (f.stack.length - tk), pc := f.pc + 1 } := by
  unfold setF
  simp
theorem alu21 (a b c : Nat) : aluN 21 a b c = aluN 21 a 0 0 := by
  have h : ∀ b c, aluN 21 a b c = if decide (a = 0) then 1 else 0 := fun b c => by
    unfold aluN
    rw [if_neg (by decide), if_neg (by decide), if_neg (by decide), if_neg (by decide), if_neg (by decide), if_neg (by decide), if_neg (by decide), if_neg (by decide), if_neg (by decide), if_neg (by decide), if_neg (by decide), if_neg (by decide), if_neg (by decide), if_neg (by decide), if_neg (by decide), if_neg (by decide), if_pos rfl]
  rw [h, h]
theorem alu25 (a b c : Nat) : aluN 25 a b c = aluN 25 a 0 0 := by
  have h : ∀ b c, aluN 25 a b c = W256 - 1 - a := fun b c => by
    unfold aluN
    rw [if_neg (by decide), if_neg (by decide), if_neg (by decide), if_neg (by decide), if_neg (by decide), if_neg (by decide), if_neg (by decide), if_neg (by decide), if_neg (by decide), if_neg (by decide), if_neg (by decide), if_neg (by decide), if_neg (by decide), if_neg (by decide), if_neg (by decide), if_neg (by decide), if_neg (by decide), if_neg (by decide), if_neg (by decide), if_neg (by decide), if_pos rfl]
  rw [h, h]
theorem plf3 (s : YSt) (f : YF) (q : Nat) (h : plC f q = 3) : plF s f q = { f with stack := plK f q ++ [valN s f q (argL f q)], pc := f.pc + (1 + immN q) } := by
  unfold plF plStk plPC plM
  rw [h]
  rfl
theorem plf4 (s : YSt) (f : YF) (q : Nat) (h : plC f q = 4) : plF s f q = { f with stack := plK f q, pc := f.pc + (1 + immN q), mem := effM s f q (argL f q) } := by
  unfold plF plStk plPC plM
  rw [h]
  rfl
theorem plf_21 (s : YSt) (f : YF) : plF s f 21 = ansN f 1 (aluN 21 (argN f.stack 0) (argN f.stack 1) (argN f.stack 2)) := by
  have e1 : argL f 21 = [argN f.stack 0] := rfl
  have e : valN s f 21 (argL f 21) = aluN 21 (argN f.stack 0) 0 0 := by
    rw [e1]
    unfold valN
    rw [if_neg (by decide), if_pos (by decide), show opndN [argN f.stack 0] 0 = argN f.stack 0 from rfl, show opndN [argN f.stack 0] 1 = 0 from rfl, show opndN [argN f.stack 0] 2 = 0 from rfl]
  rw [plf3 s f 21 rfl, e, alu21 (argN f.stack 0) (argN f.stack 1) (argN f.stack 2)]
  generalize aluN 21 (argN f.stack 0) 0 0 = z
  rfl
theorem plf_25 (s : YSt) (f : YF) : plF s f 25 = ansN f 1 (aluN 25 (argN f.stack 0) (argN f.stack 1) (argN f.stack 2)) := by
  have e1 : argL f 25 = [argN f.stack 0] := rfl
  have e : valN s f 25 (argL f 25) = aluN 25 (argN f.stack 0) 0 0 := by
    rw [e1]
    unfold valN
    rw [if_neg (by decide), if_pos (by decide), show opndN [argN f.stack 0] 0 = argN f.stack 0 from rfl, show opndN [argN f.stack 0] 1 = 0 from rfl, show opndN [argN f.stack 0] 2 = 0 from rfl]
  rw [plf3 s f 25 rfl, e, alu25 (argN f.stack 0) (argN f.stack 1) (argN f.stack 2)]
  generalize aluN 25 (argN f.stack 0) 0 0 = z
  rfl
theorem plf_59 (s : YSt) (f : YF) : plF s f 59 = ansN f 1 (avN (acctAt s.now.accts (argN f.stack 0 % A160)) 59) := by
  have e : valN s f 59 (argL f 59) = avN (acctAt s.now.accts (argN f.stack 0 % A160)) 59 := by
    unfold valN
    rw [if_neg (by decide), if_neg (by decide), if_neg (by decide), if_neg (by decide), if_pos (by decide)]
    rfl
  rw [plf3 s f 59 rfl, e]
  rfl
theorem plf_63 (s : YSt) (f : YF) : plF s f 63 = ansN f 1 (avN (acctAt s.now.accts (argN f.stack 0 % A160)) 63) := by
  have e : valN s f 63 (argL f 63) = avN (acctAt s.now.accts (argN f.stack 0 % A160)) 63 := by
    unfold valN
    rw [if_neg (by decide), if_neg (by decide), if_neg (by decide), if_neg (by decide), if_pos (by decide)]
    rfl
  rw [plf3 s f 63 rfl, e]
  rfl
theorem plf_80 (s : YSt) (f : YF) : plF s f 80 = setF f 1 false 0 1 := by
  rw [plf4 s f 80 rfl, set0]
  rfl
theorem pls_80 (s : YSt) (f : YF) : plS s f 80 = s := rfl
section
variable {s : YSt} {f : YF} {low : List YF} {c c' bc : Nat} {sn : List Nat} {sv : List AW}
theorem ox_1 (h : OxH s f low 1 c c') : OxS bc 1 s f low sn sv c c' := by
  intro w H col cs V hE
  have htk : 2 ≤ f.stack.length := h.tk
  have hov := h.ov
  have hrch : 0 ≤ f.mem.length := h.mr
  refine (x_exec1 (m_opArith hE h.hs h.hp h.hq h.hpc (by decide) htk) (fun v w' hv => by obtain ⟨_, cs1, hX⟩ := hv; exact hX.any)).mono fun v w' hv => ⟨hv.1, ?_⟩
  obtain ⟨v0, _, cs1, hX⟩ := hv.2
  rw [pls_1, plf_1]
  exact XO.of (hX.slack (by have := h.pay; omega)) (ms_top rfl)
theorem ox_2 (h : OxH s f low 2 c c') : OxS bc 2 s f low sn sv c c' := by
  intro w H col cs V hE
  have htk : 2 ≤ f.stack.length := h.tk
  have hov := h.ov
  have hrch : 0 ≤ f.mem.length := h.mr
  refine (x_exec2 (m_opArith hE h.hs h.hp h.hq h.hpc (by decide) htk) (fun v w' hv => by obtain ⟨_, cs1, hX⟩ := hv; exact hX.any)).mono fun v w' hv => ⟨hv.1, ?_⟩
  obtain ⟨v0, _, cs1, hX⟩ := hv.2
  rw [pls_2, plf_2]
  exact XO.of (hX.slack (by have := h.pay; omega)) (ms_top rfl)
theorem ox_3 (h : OxH s f low 3 c c') : OxS bc 3 s f low sn sv c c' := by
  intro w H col cs V hE
  have htk : 2 ≤ f.stack.length := h.tk
  have hov := h.ov
  have hrch : 0 ≤ f.mem.length := h.mr
  refine (x_exec3 (m_opArith hE h.hs h.hp h.hq h.hpc (by decide) htk) (fun v w' hv => by obtain ⟨_, cs1, hX⟩ := hv; exact hX.any)).mono fun v w' hv => ⟨hv.1, ?_⟩
  obtain ⟨v0, _, cs1, hX⟩ := hv.2
  rw [pls_3, plf_3]
  exact XO.of (hX.slack (by have := h.pay; omega)) (ms_top rfl)
theorem ox_4 (h : OxH s f low 4 c c') : OxS bc 4 s f low sn sv c c' := by
  intro w H col cs V hE
  have htk : 2 ≤ f.stack.length := h.tk
  have hov := h.ov
  have hrch : 0 ≤ f.mem.length := h.mr
  refine (x_exec4 (m_opArith hE h.hs h.hp h.hq h.hpc (by decide) htk) (fun v w' hv => by obtain ⟨_, cs1, hX⟩ := hv; exact hX.any)).mono fun v w' hv => ⟨hv.1, ?_⟩
  obtain ⟨v0, _, cs1, hX⟩ := hv.2
  rw [pls_4, plf_4]
  exact XO.of (hX.slack (by have := h.pay; omega)) (ms_top rfl)
theorem ox_5 (h : OxH s f low 5 c c') : OxS bc 5 s f low sn sv c c' := by
  intro w H col cs V hE
  have htk : 2 ≤ f.stack.length := h.tk
  have hov := h.ov
  have hrch : 0 ≤ f.mem.length := h.mr
  refine (x_exec5 (m_opArith hE h.hs h.hp h.hq h.hpc (by decide) htk) (fun v w' hv => by obtain ⟨_, cs1, hX⟩ := hv; exact hX.any)).mono fun v w' hv => ⟨hv.1, ?_⟩
  obtain ⟨v0, _, cs1, hX⟩ := hv.2
  rw [pls_5, plf_5]
  exact XO.of (hX.slack (by have := h.pay; omega)) (ms_top rfl)
theorem ox_6 (h : OxH s f low 6 c c') : OxS bc 6 s f low sn sv c c' := by
  intro w H col cs V hE
  have htk : 2 ≤ f.stack.length := h.tk
  have hov := h.ov
  have hrch : 0 ≤ f.mem.length := h.mr
  refine (x_exec6 (m_opArith hE h.hs h.hp h.hq h.hpc (by decide) htk) (fun v w' hv => by obtain ⟨_, cs1, hX⟩ := hv; exact hX.any)).mono fun v w' hv => ⟨hv.1, ?_⟩
  obtain ⟨v0, _, cs1, hX⟩ := hv.2
  rw [pls_6, plf_6]
  exact XO.of (hX.slack (by have := h.pay; omega)) (ms_top rfl)
theorem ox_7 (h : OxH s f low 7 c c') : OxS bc 7 s f low sn sv c c' := by
  intro w H col cs V hE
  have htk : 2 ≤ f.stack.length := h.tk
  have hov := h.ov
  have hrch : 0 ≤ f.mem.length := h.mr
  refine (x_exec7 (m_opArith hE h.hs h.hp h.hq h.hpc (by decide) htk) (fun v w' hv => by obtain ⟨_, cs1, hX⟩ := hv; exact hX.any)).mono fun v w' hv => ⟨hv.1, ?_⟩
  obtain ⟨v0, _, cs1, hX⟩ := hv.2
  rw [pls_7, plf_7]
  exact XO.of (hX.slack (by have := h.pay; omega)) (ms_top rfl)
theorem ox_8 (h : OxH s f low 8 c c') : OxS bc 8 s f low sn sv c c' := by
  intro w H col cs V hE
  have htk : 3 ≤ f.stack.length := h.tk
  have hov := h.ov
  have hrch : 0 ≤ f.mem.length := h.mr
  refine (x_exec8 (m_opArith hE h.hs h.hp h.hq h.hpc (by decide) htk) (fun v w' hv => by obtain ⟨_, cs1, hX⟩ := hv; exact hX.any)).mono fun v w' hv => ⟨hv.1, ?_⟩
  obtain ⟨v0, _, cs1, hX⟩ := hv.2
  rw [pls_8, plf_8]
  exact XO.of (hX.slack (by have := h.pay; omega)) (ms_top rfl)
theorem ox_9 (h : OxH s f low 9 c c') : OxS bc 9 s f low sn sv c c' := by
  intro w H col cs V hE
  have htk : 3 ≤ f.stack.length := h.tk
  have hov := h.ov
  have hrch : 0 ≤ f.mem.length := h.mr
  refine (x_exec9 (m_opArith hE h.hs h.hp h.hq h.hpc (by decide) htk) (fun v w' hv => by obtain ⟨_, cs1, hX⟩ := hv; exact hX.any)).mono fun v w' hv => ⟨hv.1, ?_⟩
  obtain ⟨v0, _, cs1, hX⟩ := hv.2
  rw [pls_9, plf_9]
  exact XO.of (hX.slack (by have := h.pay; omega)) (ms_top rfl)
theorem ox_10 (h : OxH s f low 10 c c') : OxS bc 10 s f low sn sv c c' := by
  intro w H col cs V hE
  have htk : 2 ≤ f.stack.length := h.tk
  have hov := h.ov
  have hrch : 0 ≤ f.mem.length := h.mr
  refine (x_exec10 (m_opArith hE h.hs h.hp h.hq h.hpc (by decide) htk) (fun v w' hv => by obtain ⟨_, cs1, hX⟩ := hv; exact hX.any)).mono fun v w' hv => ⟨hv.1, ?_⟩
  obtain ⟨v0, _, cs1, hX⟩ := hv.2
  rw [pls_10, plf_10]
  exact XO.of (hX.slack (by have := h.pay; omega)) (ms_top rfl)
theorem ox_11 (h : OxH s f low 11 c c') : OxS bc 11 s f low sn sv c c' := by
  intro w H col cs V hE
  have htk : 2 ≤ f.stack.length := h.tk
  have hov := h.ov
  have hrch : 0 ≤ f.mem.length := h.mr
  refine (x_exec11 (m_opArith hE h.hs h.hp h.hq h.hpc (by decide) htk) (fun v w' hv => by obtain ⟨_, cs1, hX⟩ := hv; exact hX.any)).mono fun v w' hv => ⟨hv.1, ?_⟩
  obtain ⟨v0, _, cs1, hX⟩ := hv.2
  rw [pls_11, plf_11]
  exact XO.of (hX.slack (by have := h.pay; omega)) (ms_top rfl)
theorem ox_16 (h : OxH s f low 16 c c') : OxS bc 16 s f low sn sv c c' := by
  intro w H col cs V hE
  have htk : 2 ≤ f.stack.length := h.tk
  have hov := h.ov
  have hrch : 0 ≤ f.mem.length := h.mr
  refine (x_exec16 (m_opCompare hE h.hs h.hp h.hq h.hpc (by decide) htk) (fun v w' hv => by obtain ⟨_, cs1, hX⟩ := hv; exact hX.any)).mono fun v w' hv => ⟨hv.1, ?_⟩
  obtain ⟨v0, _, cs1, hX⟩ := hv.2
  rw [pls_16, plf_16]
  exact XO.of (hX.slack (by have := h.pay; omega)) (ms_top rfl)
theorem ox_17 (h : OxH s f low 17 c c') : OxS bc 17 s f low sn sv c c' := by
  intro w H col cs V hE
  have htk : 2 ≤ f.stack.length := h.tk
  have hov := h.ov
  have hrch : 0 ≤ f.mem.length := h.mr
  refine (x_exec17 (m_opCompare hE h.hs h.hp h.hq h.hpc (by decide) htk) (fun v w' hv => by obtain ⟨_, cs1, hX⟩ := hv; exact hX.any)).mono fun v w' hv => ⟨hv.1, ?_⟩
  obtain ⟨v0, _, cs1, hX⟩ := hv.2
  rw [pls_17, plf_17]
  exact XO.of (hX.slack (by have := h.pay; omega)) (ms_top rfl)
theorem ox_18 (h : OxH s f low 18 c c') : OxS bc 18 s f low sn sv c c' := by
  intro w H col cs V hE
  have htk : 2 ≤ f.stack.length := h.tk
  have hov := h.ov
  have hrch : 0 ≤ f.mem.length := h.mr
  refine (x_exec18 (m_opCompare hE h.hs h.hp h.hq h.hpc (by decide) htk) (fun v w' hv => by obtain ⟨_, cs1, hX⟩ := hv; exact hX.any)).mono fun v w' hv => ⟨hv.1, ?_⟩
  obtain ⟨v0, _, cs1, hX⟩ := hv.2
  rw [pls_18, plf_18]
  exact XO.of (hX.slack (by have := h.pay; omega)) (ms_top rfl)
theorem ox_19 (h : OxH s f low 19 c c') : OxS bc 19 s f low sn sv c c' := by
  intro w H col cs V hE
  have htk : 2 ≤ f.stack.length := h.tk
  have hov := h.ov
  have hrch : 0 ≤ f.mem.length := h.mr
  refine (x_exec19 (m_opCompare hE h.hs h.hp h.hq h.hpc (by decide) htk) (fun v w' hv => by obtain ⟨_, cs1, hX⟩ := hv; exact hX.any)).mono fun v w' hv => ⟨hv.1, ?_⟩
  obtain ⟨v0, _, cs1, hX⟩ := hv.2
  rw [pls_19, plf_19]
  exact XO.of (hX.slack (by have := h.pay; omega)) (ms_top rfl)
theorem ox_20 (h : OxH s f low 20 c c') : OxS bc 20 s f low sn sv c c' := by
  intro w H col cs V hE
  have htk : 2 ≤ f.stack.length := h.tk
  have hov := h.ov
  have hrch : 0 ≤ f.mem.length := h.mr
  refine (x_exec20 (m_opCompare hE h.hs h.hp h.hq h.hpc (by decide) htk) (fun v w' hv => by obtain ⟨_, cs1, hX⟩ := hv; exact hX.any)).mono fun v w' hv => ⟨hv.1, ?_⟩
  obtain ⟨v0, _, cs1, hX⟩ := hv.2
  rw [pls_20, plf_20]
  exact XO.of (hX.slack (by have := h.pay; omega)) (ms_top rfl)
theorem ox_21 (h : OxH s f low 21 c c') : OxS bc 21 s f low sn sv c c' := by
  intro w H col cs V hE
  have htk : 1 ≤ f.stack.length := h.tk
  have hov := h.ov
  have hrch : 0 ≤ f.mem.length := h.mr
  refine (x_exec21 (m_opCompare hE h.hs h.hp h.hq h.hpc (by decide) htk) (fun v w' hv => by obtain ⟨_, cs1, hX⟩ := hv; exact hX.any)).mono fun v w' hv => ⟨hv.1, ?_⟩
  obtain ⟨v0, _, cs1, hX⟩ := hv.2
  rw [pls_21, plf_21]
  exact XO.of (hX.slack (by have := h.pay; omega)) (ms_top rfl)
theorem ox_22 (h : OxH s f low 22 c c') : OxS bc 22 s f low sn sv c c' := by
  intro w H col cs V hE
  have htk : 2 ≤ f.stack.length := h.tk
  have hov := h.ov
  have hrch : 0 ≤ f.mem.length := h.mr
  refine (x_exec22 (m_opBits hE h.hs h.hp h.hq h.hpc (by decide) htk) (fun v w' hv => by obtain ⟨_, cs1, hX⟩ := hv; exact hX.any)).mono fun v w' hv => ⟨hv.1, ?_⟩
  obtain ⟨v0, _, cs1, hX⟩ := hv.2
  rw [pls_22, plf_22]
  exact XO.of (hX.slack (by have := h.pay; omega)) (ms_top rfl)
theorem ox_23 (h : OxH s f low 23 c c') : OxS bc 23 s f low sn sv c c' := by
  intro w H col cs V hE
  have htk : 2 ≤ f.stack.length := h.tk
  have hov := h.ov
  have hrch : 0 ≤ f.mem.length := h.mr
  refine (x_exec23 (m_opBits hE h.hs h.hp h.hq h.hpc (by decide) htk) (fun v w' hv => by obtain ⟨_, cs1, hX⟩ := hv; exact hX.any)).mono fun v w' hv => ⟨hv.1, ?_⟩
  obtain ⟨v0, _, cs1, hX⟩ := hv.2
  rw [pls_23, plf_23]
  exact XO.of (hX.slack (by have := h.pay; omega)) (ms_top rfl)
theorem ox_24 (h : OxH s f low 24 c c') : OxS bc 24 s f low sn sv c c' := by
  intro w H col cs V hE
  have htk : 2 ≤ f.stack.length := h.tk
  have hov := h.ov
  have hrch : 0 ≤ f.mem.length := h.mr
  refine (x_exec24 (m_opBits hE h.hs h.hp h.hq h.hpc (by decide) htk) (fun v w' hv => by obtain ⟨_, cs1, hX⟩ := hv; exact hX.any)).mono fun v w' hv => ⟨hv.1, ?_⟩
  obtain ⟨v0, _, cs1, hX⟩ := hv.2
  rw [pls_24, plf_24]
  exact XO.of (hX.slack (by have := h.pay; omega)) (ms_top rfl)
theorem ox_25 (h : OxH s f low 25 c c') : OxS bc 25 s f low sn sv c c' := by
  intro w H col cs V hE
  have htk : 1 ≤ f.stack.length := h.tk
  have hov := h.ov
  have hrch : 0 ≤ f.mem.length := h.mr
  refine (x_exec25 (m_opBits hE h.hs h.hp h.hq h.hpc (by decide) htk) (fun v w' hv => by obtain ⟨_, cs1, hX⟩ := hv; exact hX.any)).mono fun v w' hv => ⟨hv.1, ?_⟩
  obtain ⟨v0, _, cs1, hX⟩ := hv.2
  rw [pls_25, plf_25]
  exact XO.of (hX.slack (by have := h.pay; omega)) (ms_top rfl)
theorem ox_26 (h : OxH s f low 26 c c') : OxS bc 26 s f low sn sv c c' := by
  intro w H col cs V hE
  have htk : 2 ≤ f.stack.length := h.tk
  have hov := h.ov
  have hrch : 0 ≤ f.mem.length := h.mr
  refine (x_exec26 (m_opBits hE h.hs h.hp h.hq h.hpc (by decide) htk) (fun v w' hv => by obtain ⟨_, cs1, hX⟩ := hv; exact hX.any)).mono fun v w' hv => ⟨hv.1, ?_⟩
  obtain ⟨v0, _, cs1, hX⟩ := hv.2
  rw [pls_26, plf_26]
  exact XO.of (hX.slack (by have := h.pay; omega)) (ms_top rfl)
theorem ox_27 (h : OxH s f low 27 c c') : OxS bc 27 s f low sn sv c c' := by
  intro w H col cs V hE
  have htk : 2 ≤ f.stack.length := h.tk
  have hov := h.ov
  have hrch : 0 ≤ f.mem.length := h.mr
  refine (x_exec27 (m_opBits hE h.hs h.hp h.hq h.hpc (by decide) htk) (fun v w' hv => by obtain ⟨_, cs1, hX⟩ := hv; exact hX.any)).mono fun v w' hv => ⟨hv.1, ?_⟩
  obtain ⟨v0, _, cs1, hX⟩ := hv.2
  rw [pls_27, plf_27]
  exact XO.of (hX.slack (by have := h.pay; omega)) (ms_top rfl)
theorem ox_28 (h : OxH s f low 28 c c') : OxS bc 28 s f low sn sv c c' := by
  intro w H col cs V hE
  have htk : 2 ≤ f.stack.length := h.tk
  have hov := h.ov
  have hrch : 0 ≤ f.mem.length := h.mr
  refine (x_exec28 (m_opBits hE h.hs h.hp h.hq h.hpc (by decide) htk) (fun v w' hv => by obtain ⟨_, cs1, hX⟩ := hv; exact hX.any)).mono fun v w' hv => ⟨hv.1, ?_⟩
  obtain ⟨v0, _, cs1, hX⟩ := hv.2
  rw [pls_28, plf_28]
  exact XO.of (hX.slack (by have := h.pay; omega)) (ms_top rfl)
theorem ox_29 (h : OxH s f low 29 c c') : OxS bc 29 s f low sn sv c c' := by
  intro w H col cs V hE
  have htk : 2 ≤ f.stack.length := h.tk
  have hov := h.ov
  have hrch : 0 ≤ f.mem.length := h.mr
  refine (x_exec29 (m_opBits hE h.hs h.hp h.hq h.hpc (by decide) htk) (fun v w' hv => by obtain ⟨_, cs1, hX⟩ := hv; exact hX.any)).mono fun v w' hv => ⟨hv.1, ?_⟩
  obtain ⟨v0, _, cs1, hX⟩ := hv.2
  rw [pls_29, plf_29]
  exact XO.of (hX.slack (by have := h.pay; omega)) (ms_top rfl)
theorem ox_80 (h : OxH s f low 80 c c') : OxS bc 80 s f low sn sv c c' := by
  intro w H col cs V hE
  have htk : 1 ≤ f.stack.length := h.tk
  have hov := h.ov
  have hrch : 0 ≤ f.mem.length := h.mr
  refine (x_exec80 (m_opPop hE h.hs h.hp h.hpc htk) (fun v w' hv => by obtain ⟨_, cs1, hX⟩ := hv; exact hX.any)).mono fun v w' hv => ⟨hv.1, ?_⟩
  obtain ⟨v0, _, cs1, hX⟩ := hv.2
  rw [pls_80, plf_80]
  exact XO.of (hX.slack (by have := h.pay; omega)) (ms_top rfl)
theorem ox_48 (h : OxH s f low 48 c c') : OxS bc 48 s f low sn sv c c' := by
  intro w H col cs V hE
  have htk : 0 ≤ f.stack.length := h.tk
  have hov := h.ov
  have hrch : 0 ≤ f.mem.length := h.mr
  refine (x_exec48 (m_opSur48 hE h.hs h.hp rfl h.hq h.hpc (by have e : f.stack.length - 0 + 1 ≤ 64 := hov; omega) h.org h.prc h.rl) (fun v w' hv => by obtain ⟨_, cs1, hX⟩ := hv; exact hX.any)).mono fun v w' hv => ⟨hv.1, ?_⟩
  obtain ⟨v0, _, cs1, hX⟩ := hv.2
  rw [pls_48, plf_48]
  exact XO.of (hX.slack (by have := h.pay; omega)) (ms_top rfl)
theorem ox_50 (h : OxH s f low 50 c c') : OxS bc 50 s f low sn sv c c' := by
  intro w H col cs V hE
  have htk : 0 ≤ f.stack.length := h.tk
  have hov := h.ov
  have hrch : 0 ≤ f.mem.length := h.mr
  refine (x_exec50 (m_opSur50 hE h.hs h.hp rfl h.hq h.hpc (by have e : f.stack.length - 0 + 1 ≤ 64 := hov; omega) h.org h.prc h.rl) (fun v w' hv => by obtain ⟨_, cs1, hX⟩ := hv; exact hX.any)).mono fun v w' hv => ⟨hv.1, ?_⟩
  obtain ⟨v0, _, cs1, hX⟩ := hv.2
  rw [pls_50, plf_50]
  exact XO.of (hX.slack (by have := h.pay; omega)) (ms_top rfl)
theorem ox_51 (h : OxH s f low 51 c c') : OxS bc 51 s f low sn sv c c' := by
  intro w H col cs V hE
  have htk : 0 ≤ f.stack.length := h.tk
  have hov := h.ov
  have hrch : 0 ≤ f.mem.length := h.mr
  refine (x_exec51 (m_opSur51 hE h.hs h.hp rfl h.hq h.hpc (by have e : f.stack.length - 0 + 1 ≤ 64 := hov; omega) h.org h.prc h.rl) (fun v w' hv => by obtain ⟨_, cs1, hX⟩ := hv; exact hX.any)).mono fun v w' hv => ⟨hv.1, ?_⟩
  obtain ⟨v0, _, cs1, hX⟩ := hv.2
  rw [pls_51, plf_51]
  exact XO.of (hX.slack (by have := h.pay; omega)) (ms_top rfl)
theorem ox_52 (h : OxH s f low 52 c c') : OxS bc 52 s f low sn sv c c' := by
  intro w H col cs V hE
  have htk : 0 ≤ f.stack.length := h.tk
  have hov := h.ov
  have hrch : 0 ≤ f.mem.length := h.mr
  refine (x_exec52 (m_opSur52 hE h.hs h.hp rfl h.hq h.hpc (by have e : f.stack.length - 0 + 1 ≤ 64 := hov; omega) h.org h.prc h.rl) (fun v w' hv => by obtain ⟨_, cs1, hX⟩ := hv; exact hX.any)).mono fun v w' hv => ⟨hv.1, ?_⟩
  obtain ⟨v0, _, cs1, hX⟩ := hv.2
  rw [pls_52, plf_52]
  exact XO.of (hX.slack (by have := h.pay; omega)) (ms_top rfl)
theorem ox_54 (h : OxH s f low 54 c c') : OxS bc 54 s f low sn sv c c' := by
  intro w H col cs V hE
  have htk : 0 ≤ f.stack.length := h.tk
  have hov := h.ov
  have hrch : 0 ≤ f.mem.length := h.mr
  refine (x_exec54 (m_opSur54 hE h.hs h.hp rfl h.hq h.hpc (by have e : f.stack.length - 0 + 1 ≤ 64 := hov; omega) h.org h.prc h.rl) (fun v w' hv => by obtain ⟨_, cs1, hX⟩ := hv; exact hX.any)).mono fun v w' hv => ⟨hv.1, ?_⟩
  obtain ⟨v0, _, cs1, hX⟩ := hv.2
  rw [pls_54, plf_54]
  exact XO.of (hX.slack (by have := h.pay; omega)) (ms_top rfl)
theorem ox_56 (h : OxH s f low 56 c c') : OxS bc 56 s f low sn sv c c' := by
  intro w H col cs V hE
  have htk : 0 ≤ f.stack.length := h.tk
  have hov := h.ov
  have hrch : 0 ≤ f.mem.length := h.mr
  refine (x_exec56 (m_opSur56 hE h.hs h.hp rfl h.hq h.hpc (by have e : f.stack.length - 0 + 1 ≤ 64 := hov; omega) h.org h.prc h.rl) (fun v w' hv => by obtain ⟨_, cs1, hX⟩ := hv; exact hX.any)).mono fun v w' hv => ⟨hv.1, ?_⟩
  obtain ⟨v0, _, cs1, hX⟩ := hv.2
  rw [pls_56, plf_56]
  exact XO.of (hX.slack (by have := h.pay; omega)) (ms_top rfl)
theorem ox_58 (h : OxH s f low 58 c c') : OxS bc 58 s f low sn sv c c' := by
  intro w H col cs V hE
  have htk : 0 ≤ f.stack.length := h.tk
  have hov := h.ov
  have hrch : 0 ≤ f.mem.length := h.mr
  refine (x_exec58 (m_opSur58 hE h.hs h.hp rfl h.hq h.hpc (by have e : f.stack.length - 0 + 1 ≤ 64 := hov; omega) h.org h.prc h.rl) (fun v w' hv => by obtain ⟨_, cs1, hX⟩ := hv; exact hX.any)).mono fun v w' hv => ⟨hv.1, ?_⟩
  obtain ⟨v0, _, cs1, hX⟩ := hv.2
  rw [pls_58, plf_58]
  exact XO.of (hX.slack (by have := h.pay; omega)) (ms_top rfl)
theorem ox_61 (h : OxH s f low 61 c c') : OxS bc 61 s f low sn sv c c' := by
  intro w H col cs V hE
  have htk : 0 ≤ f.stack.length := h.tk
  have hov := h.ov
  have hrch : 0 ≤ f.mem.length := h.mr
  refine (x_exec61 (m_opSur61 hE h.hs h.hp rfl h.hq h.hpc (by have e : f.stack.length - 0 + 1 ≤ 64 := hov; omega) h.org h.prc h.rl) (fun v w' hv => by obtain ⟨_, cs1, hX⟩ := hv; exact hX.any)).mono fun v w' hv => ⟨hv.1, ?_⟩
  obtain ⟨v0, _, cs1, hX⟩ := hv.2
  rw [pls_61, plf_61]
  exact XO.of (hX.slack (by have := h.pay; omega)) (ms_top rfl)
theorem ox_71 (h : OxH s f low 71 c c') : OxS bc 71 s f low sn sv c c' := by
  intro w H col cs V hE
  have htk : 0 ≤ f.stack.length := h.tk
  have hov := h.ov
  have hrch : 0 ≤ f.mem.length := h.mr
  refine (x_exec71 (m_opSur71 hE h.hs h.hp rfl h.hq h.hpc (by have e : f.stack.length - 0 + 1 ≤ 64 := hov; omega) h.org h.prc h.rl) (fun v w' hv => by obtain ⟨_, cs1, hX⟩ := hv; exact hX.any)).mono fun v w' hv => ⟨hv.1, ?_⟩
  obtain ⟨v0, _, cs1, hX⟩ := hv.2
  rw [pls_71, plf_71]
  exact XO.of (hX.slack (by have := h.pay; omega)) (ms_top rfl)
theorem ox_88 (h : OxH s f low 88 c c') : OxS bc 88 s f low sn sv c c' := by
  intro w H col cs V hE
  have htk : 0 ≤ f.stack.length := h.tk
  have hov := h.ov
  have hrch : 0 ≤ f.mem.length := h.mr
  refine (x_exec88 (m_opSur88 hE h.hs h.hp rfl h.hq h.hpc (by have e : f.stack.length - 0 + 1 ≤ 64 := hov; omega) h.org h.prc h.rl) (fun v w' hv => by obtain ⟨_, cs1, hX⟩ := hv; exact hX.any)).mono fun v w' hv => ⟨hv.1, ?_⟩
  obtain ⟨v0, _, cs1, hX⟩ := hv.2
  rw [pls_88, plf_88]
  exact XO.of (hX.slack (by have := h.pay; omega)) (ms_top rfl)
theorem ox_89 (h : OxH s f low 89 c c') : OxS bc 89 s f low sn sv c c' := by
  intro w H col cs V hE
  have htk : 0 ≤ f.stack.length := h.tk
  have hov := h.ov
  have hrch : 0 ≤ f.mem.length := h.mr
  refine (x_exec89 (m_opSur89 hE h.hs h.hp rfl h.hq h.hpc (by have e : f.stack.length - 0 + 1 ≤ 64 := hov; omega) h.org h.prc h.rl) (fun v w' hv => by obtain ⟨_, cs1, hX⟩ := hv; exact hX.any)).mono fun v w' hv => ⟨hv.1, ?_⟩
  obtain ⟨v0, _, cs1, hX⟩ := hv.2
  rw [pls_89, plf_89]
  exact XO.of (hX.slack (by have := h.pay; omega)) (ms_top rfl)
theorem ox_90 (h : OxH s f low 90 c c') : OxS bc 90 s f low sn sv c c' := by
  intro w H col cs V hE
  have htk : 0 ≤ f.stack.length := h.tk
  have hov := h.ov
  have hrch : 0 ≤ f.mem.length := h.mr
  refine (x_exec90 (m_opSur90 hE h.hs h.hp rfl h.hq h.hpc (by have e : f.stack.length - 0 + 1 ≤ 64 := hov; omega) h.org h.prc h.rl) (fun v w' hv => by obtain ⟨_, cs1, hX⟩ := hv; exact hX.any)).mono fun v w' hv => ⟨hv.1, ?_⟩
  obtain ⟨v0, _, cs1, hX⟩ := hv.2
  rw [pls_90, plf_90]
  exact XO.of (hX.slack (by have := h.pay; omega)) (ms_top rfl)
theorem ox_53 (h : OxH s f low 53 c c') : OxS bc 53 s f low sn sv c c' := by
  intro w H col cs V hE
  have htk : 1 ≤ f.stack.length := h.tk
  have hov := h.ov
  have hrch : 0 ≤ f.mem.length := h.mr
  refine (x_exec53 (m_opSur53 hE h.hs h.hp h.hq h.hpc htk) (fun v w' hv => by obtain ⟨_, cs1, hX⟩ := hv; exact hX.any)).mono fun v w' hv => ⟨hv.1, ?_⟩
  obtain ⟨v0, _, cs1, hX⟩ := hv.2
  rw [pls_53, plf_53]
  exact XO.of (hX.slack (by have := h.pay; omega)) (ms_top rfl)
theorem ox_65 (h : OxH s f low 65 c c') : OxS bc 65 s f low sn sv c c' := by
  intro w H col cs V hE
  have htk : 0 ≤ f.stack.length := h.tk
  have hov := h.ov
  have hrch : 0 ≤ f.mem.length := h.mr
  refine (x_exec65 (m_opBlk65 hE h.hs h.hp h.hq h.hpc (by have e : f.stack.length - 0 + 1 ≤ 64 := hov; omega)) (fun v w' hv => by obtain ⟨_, cs1, hX⟩ := hv; exact hX.any)).mono fun v w' hv => ⟨hv.1, ?_⟩
  obtain ⟨v0, _, cs1, hX⟩ := hv.2
  rw [pls_65, plf_65]
  exact XO.of (hX.slack (by have := h.pay; omega)) (ms_top rfl)
theorem ox_66 (h : OxH s f low 66 c c') : OxS bc 66 s f low sn sv c c' := by
  intro w H col cs V hE
  have htk : 0 ≤ f.stack.length := h.tk
  have hov := h.ov
  have hrch : 0 ≤ f.mem.length := h.mr
  refine (x_exec66 (m_opBlk66 hE h.hs h.hp h.hq h.hpc (by have e : f.stack.length - 0 + 1 ≤ 64 := hov; omega)) (fun v w' hv => by obtain ⟨_, cs1, hX⟩ := hv; exact hX.any)).mono fun v w' hv => ⟨hv.1, ?_⟩
  obtain ⟨v0, _, cs1, hX⟩ := hv.2
  rw [pls_66, plf_66]
  exact XO.of (hX.slack (by have := h.pay; omega)) (ms_top rfl)
theorem ox_67 (h : OxH s f low 67 c c') : OxS bc 67 s f low sn sv c c' := by
  intro w H col cs V hE
  have htk : 0 ≤ f.stack.length := h.tk
  have hov := h.ov
  have hrch : 0 ≤ f.mem.length := h.mr
  refine (x_exec67 (m_opBlk67 hE h.hs h.hp h.hq h.hpc (by have e : f.stack.length - 0 + 1 ≤ 64 := hov; omega)) (fun v w' hv => by obtain ⟨_, cs1, hX⟩ := hv; exact hX.any)).mono fun v w' hv => ⟨hv.1, ?_⟩
  obtain ⟨v0, _, cs1, hX⟩ := hv.2
  rw [pls_67, plf_67]
  exact XO.of (hX.slack (by have := h.pay; omega)) (ms_top rfl)
theorem ox_68 (h : OxH s f low 68 c c') : OxS bc 68 s f low sn sv c c' := by
  intro w H col cs V hE
  have htk : 0 ≤ f.stack.length := h.tk
  have hov := h.ov
  have hrch : 0 ≤ f.mem.length := h.mr
  refine (x_exec68 (m_opBlk68 hE h.hs h.hp h.hq h.hpc (by have e : f.stack.length - 0 + 1 ≤ 64 := hov; omega)) (fun v w' hv => by obtain ⟨_, cs1, hX⟩ := hv; exact hX.any)).mono fun v w' hv => ⟨hv.1, ?_⟩
  obtain ⟨v0, _, cs1, hX⟩ := hv.2
  rw [pls_68, plf_68]
  exact XO.of (hX.slack (by have := h.pay; omega)) (ms_top rfl)
theorem ox_69 (h : OxH s f low 69 c c') : OxS bc 69 s f low sn sv c c' := by
  intro w H col cs V hE
  have htk : 0 ≤ f.stack.length := h.tk
  have hov := h.ov
  have hrch : 0 ≤ f.mem.length := h.mr
  refine (x_exec69 (m_opBlk69 hE h.hs h.hp h.hq h.hpc (by have e : f.stack.length - 0 + 1 ≤ 64 := hov; omega)) (fun v w' hv => by obtain ⟨_, cs1, hX⟩ := hv; exact hX.any)).mono fun v w' hv => ⟨hv.1, ?_⟩
  obtain ⟨v0, _, cs1, hX⟩ := hv.2
  rw [pls_69, plf_69]
  exact XO.of (hX.slack (by have := h.pay; omega)) (ms_top rfl)
theorem ox_70 (h : OxH s f low 70 c c') : OxS bc 70 s f low sn sv c c' := by
  intro w H col cs V hE
  have htk : 0 ≤ f.stack.length := h.tk
  have hov := h.ov
  have hrch : 0 ≤ f.mem.length := h.mr
  refine (x_exec70 (m_opBlk70 hE h.hs h.hp h.hq h.hpc (by have e : f.stack.length - 0 + 1 ≤ 64 := hov; omega)) (fun v w' hv => by obtain ⟨_, cs1, hX⟩ := hv; exact hX.any)).mono fun v w' hv => ⟨hv.1, ?_⟩
  obtain ⟨v0, _, cs1, hX⟩ := hv.2
  rw [pls_70, plf_70]
  exact XO.of (hX.slack (by have := h.pay; omega)) (ms_top rfl)
theorem ox_72 (h : OxH s f low 72 c c') : OxS bc 72 s f low sn sv c c' := by
  intro w H col cs V hE
  have htk : 0 ≤ f.stack.length := h.tk
  have hov := h.ov
  have hrch : 0 ≤ f.mem.length := h.mr
  refine (x_exec72 (m_opBlk72 hE h.hs h.hp h.hq h.hpc (by have e : f.stack.length - 0 + 1 ≤ 64 := hov; omega)) (fun v w' hv => by obtain ⟨_, cs1, hX⟩ := hv; exact hX.any)).mono fun v w' hv => ⟨hv.1, ?_⟩
  obtain ⟨v0, _, cs1, hX⟩ := hv.2
  rw [pls_72, plf_72]
  exact XO.of (hX.slack (by have := h.pay; omega)) (ms_top rfl)
theorem ox_64 (h : OxH s f low 64 c c') : OxS bc 64 s f low sn sv c c' := by
  intro w H col cs V hE
  have htk : 1 ≤ f.stack.length := h.tk
  have hov := h.ov
  have hrch : 0 ≤ f.mem.length := h.mr
  refine (x_exec64 (m_opBlk64 hE h.hs h.hp h.hq h.hpc htk) (fun v w' hv => by obtain ⟨_, cs1, hX⟩ := hv; exact hX.any)).mono fun v w' hv => ⟨hv.1, ?_⟩
  obtain ⟨v0, _, cs1, hX⟩ := hv.2
  rw [pls_64, plf_64]
  exact XO.of (hX.slack (by have := h.pay; omega)) (ms_top rfl)
theorem ox_92 (h : OxH s f low 92 c c') : OxS bc 92 s f low sn sv c c' := by
  intro w H col cs V hE
  have htk : 1 ≤ f.stack.length := h.tk
  have hov := h.ov
  have hrch : 0 ≤ f.mem.length := h.mr
  refine (x_exec92 (m_opTload hE h.hs h.hp h.hq h.hpc htk) (fun v w' hv => by obtain ⟨_, cs1, hX⟩ := hv; exact hX.any)).mono fun v w' hv => ⟨hv.1, ?_⟩
  obtain ⟨v0, _, cs1, hX⟩ := hv.2
  rw [pls_92, plf_92]
  exact XO.of (hX.slack (by have := h.pay; omega)) (ms_top rfl)
end
end Go.Proofs.YgvaawGreat
