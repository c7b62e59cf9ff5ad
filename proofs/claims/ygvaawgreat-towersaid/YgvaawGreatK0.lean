import Derived.Test.YgvaawGreatY22
set_option maxRecDepth 100000
set_option linter.unusedSimpArgs false
set_option linter.unusedVariables false
namespace Go.Proofs.YgvaawGreat
open Go
/-! Keccak-256 as a plain function of bytes. -/
abbrev KS := Nat → Nat → Nat → Bool
def kOff (x y : Nat) : Nat := [0, 1, 62, 28, 27, 36, 44, 6, 55, 20, 3, 10, 43, 25, 39, 41, 45, 15, 21, 8, 18, 2, 61, 56, 14].getD (5 * y + x) 0
def kRC (i : Nat) : Nat := [0x0000000000000001, 0x0000000000008082, 0x800000000000808a, 0x8000000080008000, 0x000000000000808b, 0x0000000080000001, 0x8000000080008081, 0x8000000000008009, 0x000000000000008a, 0x0000000000000088, 0x0000000080008009, 0x000000008000000a, 0x000000008000808b, 0x800000000000008b, 0x8000000000008089, 0x8000000000008003, 0x8000000000008002, 0x8000000000000080, 0x000000000000800a, 0x800000008000000a, 0x8000000080008081, 0x8000000000008080, 0x0000000080000001, 0x8000000080008008].getD i 0
def kC (a : KS) (x z : Nat) : Bool := a x 0 z ^^ a x 1 z ^^ a x 2 z ^^ a x 3 z ^^ a x 4 z
def kTheta (a : KS) : KS := fun x y z => a x y z ^^ (kC a ((x + 4) % 5) z ^^ kC a ((x + 1) % 5) ((z + 63) % 64))
def kRho (a : KS) : KS := fun x y z => a x y ((z + 64 - kOff x y) % 64)
def kPi (a : KS) : KS := fun x y z => a ((x + 3 * y) % 5) x z
def kChi (a : KS) : KS := fun x y z => a x y z ^^ (!a ((x + 1) % 5) y z && a ((x + 2) % 5) y z)
def kIota (i : Nat) (a : KS) : KS := fun x y z => if x = 0 ∧ y = 0 then a x y z ^^ (kRC i).testBit z else a x y z
def kRound (i : Nat) (a : KS) : KS := kIota i (kChi (kPi (kRho (kTheta a))))
def kPerm : Nat → KS → KS
  | 0, a => a
  | n + 1, a => kRound n (kPerm n a)
def kF (s : Nat → Bool) : Nat → Bool := fun i => kPerm 24 (fun x y z => s (64 * (5 * y + x) + z)) (i / 64 % 5) (i / 320) (i % 64)
def kBits (l : List Nat) : List Bool := l.flatMap (fun c => (List.range 8).map (fun k => c.testBit k))
def kPad (l : List Nat) : List Bool := kBits l ++ [true] ++ List.replicate ((1088 - (8 * l.length + 2) % 1088) % 1088) false ++ [true]
def kTake (s : Nat → Bool) (i : Nat) (b : Bool) : Nat → Bool :=
  let t := fun j => if j = i % 1088 then s j ^^ b else s j
  if i % 1088 = 1087 then kF t else t
def kAbs : List Bool → Nat → (Nat → Bool) → (Nat → Bool)
  | [], _, s => s
  | b :: l, i, s => kAbs l (i + 1) (kTake s i b)
def kByte (s : Nat → Bool) (j : Nat) : Nat := (List.range 8).foldl (fun n k => n + if s (8 * j + k) then 2 ^ k else 0) 0
def kecL (l : List Nat) : List Nat := (List.range 32).map (kByte (kAbs (kPad l) 0 (fun _ => false)))
def kecN (l : List Nat) : Nat := ofBE (kecL l)
theorem kByte_lt (s : Nat → Bool) (j : Nat) : kByte s j < 256 := by
  have h : ∀ (b : Bool) (n : Nat), (if b = true then n else 0) ≤ n := fun b n => by split <;> omega
  have e : List.range 8 = [0, 1, 2, 3, 4, 5, 6, 7] := by decide
  unfold kByte
  rw [e]
  simp only [List.foldl_cons, List.foldl_nil]
  have h0 := h (s (8 * j + 0)) (2 ^ 0)
  have h1 := h (s (8 * j + 1)) (2 ^ 1)
  have h2 := h (s (8 * j + 2)) (2 ^ 2)
  have h3 := h (s (8 * j + 3)) (2 ^ 3)
  have h4 := h (s (8 * j + 4)) (2 ^ 4)
  have h5 := h (s (8 * j + 5)) (2 ^ 5)
  have h6 := h (s (8 * j + 6)) (2 ^ 6)
  have h7 := h (s (8 * j + 7)) (2 ^ 7)
  omega
theorem kec_dig (l : List Nat) : ∀ d ∈ kecL l, d < 256 := by
  intro d hd
  obtain ⟨j, _, rfl⟩ := List.mem_map.1 hd
  exact kByte_lt _ _
theorem kec_len (l : List Nat) : (kecL l).length = 32 := by simp [kecL]
theorem be_kec (l : List Nat) : be 32 (kecN l) = kecL l := by
  have := be_ofBE (kecL l) (kec_dig l)
  rw [kec_len] at this; exact this
/-- what the specification's hash answers (proved in its own text) -/
def KSum : Prop := ∀ (w : World) (H : Store) (v : Value) (l : List Nat), Fz w H → BV H v l → l.length ≤ 1099511627776 → Ret 215 [v] w (fun v w' => v = hV (kecN l) ∧ Up w w')
theorem bd_A {x : Nat} (h : x < A160) : x < 256 ^ 20 := A160_pow ▸ h
theorem nat_fromRow {w : World} {H : Store} {b o n x : Nat} (hF : Fz w H) (hr : Row w b o (bL (be n x))) (hb : b < w.heap.size) (hx : x < 256 ^ n) (hn : n ≤ 64) : Ret 33 [.slice (some ⟨b, o, none⟩) n n] w (fun v w' => ∃ H', Go No w H w' H' ∧ NV H' v x) := by
  have hW : WV w.heap.size w (.slice (some ⟨b, o, none⟩) n n) (be n x) := ⟨be_lt n x, .inr ⟨b, o, n, by rw [length_be], hb, by rw [length_be]; exact Nat.le_refl _, by omega, hr⟩⟩
  have h := nat_fromBE hF hW (Nat.le_refl _) (by rw [length_be]; omega)
  rw [ofBE_be, Nat.mod_eq_of_lt hx] at h
  exact h
end Go.Proofs.YgvaawGreat
