import Derived.Test.YgvaawGreatY31
set_option maxRecDepth 100000
set_option linter.unusedSimpArgs false
set_option linter.unusedVariables false
namespace Go.Proofs.YgvaawGreat
open Go
/-! A transaction, as a plain record, and how it lies in cells. -/
structure YTx where
  frm : Nat
  to : Nat
  create : Bool
  nonce : Nat
  gas : Nat
  price : Nat
  value : Nat
  data : List Nat
  dynamic : Bool
  maxFee : Nat
  tip : Nat
  access : List (Nat × List Nat)
def P_access : Cp (Nat × List Nat) := fun H c x => ∃ vk, c = bL (be 20 x.1) ++ [vk] ∧ x.1 < A160 ∧ LV P_word 32 H vk x.2
theorem mono_access : Mono P_access := fun _ _ _ _ hl ⟨vk, h1, h2, h3⟩ => ⟨vk, h1, h2, h3.mono' mono_word hl⟩
theorem mc_access : MC P_access := ⟨mono_access⟩
structure TOk (T : YTx) : Prop where
  frm : T.frm < A160
  to : T.to < A160
  nonce : T.nonce < 18446744073709551616
  gas : T.gas < 18446744073709551616
  price : T.price < W256
  value : T.value < W256
  maxFee : T.maxFee < W256
  tip : T.tip < W256
  data : T.data.length < 9223372036854775808
  access : T.access.length < 9223372036854775808
structure TC (H : Store) (cs : Array Value) (T : YTx) : Prop where
  ok : TOk T
  ex : ∃ da dc aa ac, RowIn cs 0 (bL (be 20 T.frm)) ∧ RowIn cs 20 (bL (be 20 T.to)) ∧ RowIn cs 40 [.bool T.create, .int .u64 (T.nonce : Nat), .int .u64 (T.gas : Nat)] ∧ RowIn cs 43 (bL (be 32 T.price)) ∧ RowIn cs 75 (bL (be 32 T.value)) ∧ RowIn cs 107 [.slice da T.data.length dc, .bool T.dynamic] ∧ RowIn cs 109 (bL (be 32 T.maxFee)) ∧ RowIn cs 141 (bL (be 32 T.tip)) ∧ RowIn cs 173 [.slice aa T.access.length ac] ∧ BV H (.slice da T.data.length dc) T.data ∧ LV P_access 21 H (.slice aa T.access.length ac) T.access
theorem TC.mono {H H' : Store} {cs : Array Value} {T : YTx} (h : TC H cs T) (hl : Le H H') : TC H' cs T := by
  obtain ⟨da, dc, aa, ac, h1, h2, h3, h4, h5, h6, h7, h8, h9, h10, h11⟩ := h.ex
  exact ⟨h.ok, da, dc, aa, ac, h1, h2, h3, h4, h5, h6, h7, h8, h9, h10.mono hl, h11.mono hl⟩
def feeM (T : YTx) : Nat := if T.dynamic = true then T.maxFee else T.price
def feeT (T : YTx) : Nat := if T.dynamic = true then T.tip else T.price
def keysN (l : List (Nat × List Nat)) : Nat := (l.map fun x => x.2.length).sum
def lsOk (l : List (Nat × List Nat)) : Bool := decide (l.length ≤ 16) && decide (keysN l ≤ 64)
theorem keys_take {l : List (Nat × List Nat)} {i : Nat} (h : i < l.length) : keysN (l.take (i + 1)) = keysN (l.take i) + l[i].2.length := by
  unfold keysN
  rw [← List.take_append_getElem h, List.map_append, List.sum_append]
  simp
theorem keys_le (l : List (Nat × List Nat)) (i : Nat) : keysN (l.take i) ≤ keysN l := by
  unfold keysN
  conv => rhs; rw [← List.take_append_drop i l, List.map_append, List.sum_append]
  omega
end Go.Proofs.YgvaawGreat
