import Derived.Test.YgvaawGreatP7
import Derived.Test.YgvaawGreatQ5
import Derived.Test.YgvaawGreatW15
set_option maxRecDepth 100000
set_option linter.unusedSimpArgs false
set_option linter.unusedVariables false
namespace Go.Proofs.YgvaawGreat
open Go
/-! The end of a transaction as a plain function; the whole run. -/
def finA (s : YSt) : List YAcct := goesA (payA2 s) s.now.gone
def finY (s : YSt) : YSt := { now := ⟨finA s, [], [], 0, [], [], [], []⟩, start := [], frames := [], ret := [], phase := 0, status := 0, applied := s.applied, limit := 0, txGas := 0, left := 0, price := 0, total := s.total - (useN s * s.price - feeN s), origin := 0, made := 0, env := s.env }
def Rn : Nat → YSt → YSt → Prop
  | 0, s, z => s = z ∧ IE s ∧ WLB s.now
  | n + 1, s, z => ∃ low f, IS s low f ∧ s.frames = low ++ [f] ∧ PC s low f ∧ Rn n (stepY s f low) z
theorem Rn.done {s : YSt} (h : IE s) (h2 : WLB s.now) : Rn 0 s s := ⟨rfl, h, h2⟩
theorem Rn.step {n : Nat} {s z : YSt} {low : List YF} {f : YF} (h1 : IS s low f) (h2 : s.frames = low ++ [f]) (h3 : PC s low f) (h4 : Rn n (stepY s f low) z) : Rn (n + 1) s z := ⟨low, f, h1, h2, h3, h4⟩
theorem Rn.ie : ∀ {n : Nat} {s z : YSt}, Rn n s z → IE z
  | 0, _, _, h => by
    obtain ⟨rfl, h, _⟩ := h
    exact h
  | _ + 1, _, _, h => by
    obtain ⟨_, _, _, _, _, h⟩ := h
    exact Rn.ie h
theorem Rn.lb : ∀ {n : Nat} {s z : YSt}, Rn n s z → WLB z.now
  | 0, _, _, h => by
    obtain ⟨rfl, _, h⟩ := h
    exact h
  | _ + 1, _, _, h => by
    obtain ⟨_, _, _, _, _, h⟩ := h
    exact Rn.lb h
theorem gone_at (l : List YAcct) (a b : Nat) : acctAt (goneA l a) b = if b = a then ⟨a, 0, (acctAt l a).bal, [], []⟩ else acctAt l b := by
  unfold goneA
  rw [acct_put]
theorem goes_at : ∀ (g : List Nat) (l : List YAcct) (b : Nat), acctAt (goesA l g) b = if b ∈ g then ⟨b, 0, (acctAt l b).bal, [], []⟩ else acctAt l b
  | [], l, b => by rw [if_neg (by simp)]; rfl
  | a :: g, l, b => by
    show acctAt (goesA (goneA l a) g) b = _
    rw [goes_at g, gone_at]
    by_cases e : b = a
    · subst e
      rw [if_pos rfl, if_pos (List.mem_cons_self ..)]
      split <;> rfl
    · rw [if_neg e]
      by_cases h : b ∈ g
      · rw [if_pos h, if_pos (List.mem_cons_of_mem _ h)]
      · rw [if_neg h, if_neg (by simp [e, h])]
theorem goes_ok : ∀ (g : List Nat) {l : List YAcct}, AlOk l → AlOk (goesA l g)
  | [], _, h => h
  | _ :: g, _, h => goes_ok g (h.put SlOk.nil)
theorem goes_sum : ∀ (g : List Nat) {l : List YAcct}, AlOk l → sumB (goesA l g) = sumB l
  | [], _, _ => rfl
  | a :: g, l, h => by
    show sumB (goesA (goneA l a) g) = _
    have h1 : AlOk (goneA l a) := h.put SlOk.nil
    rw [goes_sum g h1]
    exact sum_same h rfl
theorem fin_abs (s : YSt) : absY (finY s).now = endW (absY { s.now with accts := payA2 s }) := by
  have key := goes_at s.now.gone (payA2 s)
  refine AW.ext' ?_ ?_ ?_ ?_ ?_ ?_ ?_ ?_ ?_ ?_ ?_
  · funext a
    show (acctAt (goesA (payA2 s) s.now.gone) a).nonce = if decide (a ∈ s.now.gone) = true then 0 else (acctAt (payA2 s) a).nonce
    rw [key]
    by_cases h : a ∈ s.now.gone <;> simp [h]
  · funext a
    show (acctAt (goesA (payA2 s) s.now.gone) a).bal = (acctAt (payA2 s) a).bal
    rw [key]
    by_cases h : a ∈ s.now.gone <;> simp [h]
  · funext a
    show (acctAt (goesA (payA2 s) s.now.gone) a).code = if decide (a ∈ s.now.gone) = true then [] else (acctAt (payA2 s) a).code
    rw [key]
    by_cases h : a ∈ s.now.gone <;> simp [h]
  · funext a k
    show slotAt (acctAt (goesA (payA2 s) s.now.gone) a).slots k = if decide (a ∈ s.now.gone) = true then 0 else slotAt (acctAt (payA2 s) a).slots k
    rw [key]
    by_cases h : a ∈ s.now.gone
    · simp [h, slotAt]
    · simp [h]
  all_goals rfl
section
variable {s : YSt} {V : EV}
theorem use_mul (s : YSt) : bckN s + feeN s ≤ s.limit * s.price := by
  have h1 := use_le s
  unfold bckN feeN
  have h2 : useN s * (s.price - s.env.baseFee) ≤ useN s * s.price := Nat.mul_le_mul_left _ (Nat.sub_le _ _)
  have h3 : (s.limit - useN s) * s.price + useN s * s.price = s.limit * s.price := by
    rw [← Nat.add_mul, Nat.sub_add_cancel h1]
  omega
theorem pay1_ok (h : IE s) : AlOk (payA1 s) ∧ sumB (payA1 s) = sumB s.now.accts + bckN s := by
  have ho := h.b.now.wf.accts
  refine ⟨ho.bal _ _, ?_⟩
  have := sum_put ho.rise (setBal (acctAt s.now.accts s.origin) ((acctAt s.now.accts s.origin).bal + bckN s))
  have e : (setBal (acctAt s.now.accts s.origin) ((acctAt s.now.accts s.origin).bal + bckN s)).addr = s.origin := acct_ad _ _
  rw [e] at this
  have e2 : (setBal (acctAt s.now.accts s.origin) ((acctAt s.now.accts s.origin).bal + bckN s)).bal = (acctAt s.now.accts s.origin).bal + bckN s := rfl
  unfold payA1
  omega
theorem pay2_ok (h : IE s) : AlOk (payA2 s) ∧ sumB (payA2 s) = sumB s.now.accts + bckN s + feeN s := by
  obtain ⟨ho, hs⟩ := pay1_ok h
  refine ⟨ho.bal _ _, ?_⟩
  have := sum_put ho.rise (setBal (acctAt (payA1 s) s.env.coinbase) ((acctAt (payA1 s) s.env.coinbase).bal + feeN s))
  have e : (setBal (acctAt (payA1 s) s.env.coinbase) ((acctAt (payA1 s) s.env.coinbase).bal + feeN s)).addr = s.env.coinbase := acct_ad _ _
  rw [e] at this
  have e2 : (setBal (acctAt (payA1 s) s.env.coinbase) ((acctAt (payA1 s) s.env.coinbase).bal + feeN s)).bal = (acctAt (payA1 s) s.env.coinbase).bal + feeN s := rfl
  unfold payA2
  omega
theorem fin_ii (h : IE s) : II (finY s) := by
  obtain ⟨h2, h3⟩ := pay2_ok h
  have h4 := use_mul s
  have h5 := h.b.now.sum
  refine ⟨rfl, rfl, goes_ok _ h2, rfl, ?_, h.b.ap⟩
  show sumB (goesA (payA2 s) s.now.gone) < W256
  rw [goes_sum _ h2]
  omega
theorem py_of {w : World} {H : Store} {col : Nat → Nat} {bc : Nat} {cs : Array Value} {sn : List Nat} {sv : List AW} {ms : List (List Nat)} {c : Nat} (h : IE s) (hE : EX w H col bc cs V s sn sv ms c) : PyH s V := by
  have h4 := use_mul s
  have h5 := h.b.now.sum
  have ho := h.b.now.wf.accts
  obtain ⟨h1, h2⟩ := pay1_ok h
  have hor := hE.px.org (by rw [h.ph]; decide)
  have hp := hE.px.pot
  have hpa := hp.a
  have hpj := hp.j
  have hap := h.b.ap
  have hb1 := sum_le ho.rise s.origin
  have hb2 := sum_le h1.rise s.env.coinbase
  refine ⟨h.ph, h.left, h.b.lim, h.b.bf, h.b.prc, by omega, by omega, by omega, by omega, hor.1, hor.2, ?_, ?_, h.b.org, ?_, h.b.ret, fun x hx => ?_⟩
  · have : s.applied = 0 ∨ s.applied = 1 ∨ s.applied = 2 ∨ s.applied = 3 ∨ s.applied = 4 := by omega
    rcases this with e | e | e | e | e <;> rw [e] at hpa <;> omega
  · omega
  · have := h.sts
    omega
  · have := h.b.now.wf.logs x hx
    omega
end
end Go.Proofs.YgvaawGreat
