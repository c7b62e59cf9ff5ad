import Derived.Test.YgvaawGreatKit2
set_option linter.unusedSimpArgs false
set_option linter.unusedVariables false
namespace Go.Proofs.YgvaawGreat
open Go
/-! Bytes, words, addresses as lists of cells. -/
def bval (d : Nat) : Value := .int .u8 d
def bL (l : List Nat) : List Value := l.map bval
def uval (d : Nat) : Value := .int .u64 d
def uL (l : List Nat) : List Value := l.map uval
theorem length_bL (l : List Nat) : (bL l).length = l.length := by simp [bL]
theorem get_bL (l : List Nat) (i : Nat) (h : i < l.length) : (bL l)[i]? = some (.int .u8 (l[i] : Nat)) := by simp [bL, bval, h]
theorem one_bL (l : List Nat) : ∀ v ∈ bL l, v.one1 = true := by
  intro v hv; simp [bL, bval] at hv; obtain ⟨d, _, rfl⟩ := hv; rfl
theorem one_uL (l : List Nat) : ∀ v ∈ uL l, v.one1 = true := by
  intro v hv; simp [uL, uval] at hv; obtain ⟨d, _, rfl⟩ := hv; rfl
theorem spl_full (cs : Array Value) (vs : List Value) (h : cs.size = vs.length) : spl cs 0 vs = vs.toArray := by
  apply Array.ext_getElem?
  intro i
  rw [get_spl _ _ _ _ (by omega)]
  by_cases hi : i < vs.length
  · simp [hi]
  · rw [if_neg (by omega)]
    simp [hi, Array.getElem?_eq_none (show cs.size ≤ i by omega)]
theorem Blk.full {w : World} {b : Nat} {cs : Array Value} {vs : List Value} (h : Blk w b (spl cs 0 vs)) (hs : cs.size = vs.length) : Blk w b vs.toArray := by
  rw [spl_full cs vs hs] at h; exact h
/-- the number that bytes make, the most significant first -/
def ofBE (l : List Nat) : Nat := l.foldl (fun a d => a * 256 + d) 0
/-- k bytes of a number, the most significant first -/
def be : Nat → Nat → List Nat
  | 0, _ => []
  | k + 1, n => be k (n / 256) ++ [n % 256]
theorem length_be (k n : Nat) : (be k n).length = k := by
  induction k generalizing n with
  | zero => rfl
  | succ k ih => simp [be, ih]
theorem be_lt (k n : Nat) : ∀ d ∈ be k n, d < 256 := by
  induction k generalizing n with
  | zero => intro d hd; cases hd
  | succ k ih =>
    intro d hd
    simp [be] at hd
    rcases hd with hd | hd
    · exact ih _ d hd
    · omega
theorem ofBE_append (l m : List Nat) : ofBE (l ++ m) = ofBE l * 256 ^ m.length + ofBE m := by
  unfold ofBE
  rw [List.foldl_append]
  generalize List.foldl (fun a d => a * 256 + d) 0 l = x
  have key : ∀ (m : List Nat) (x : Nat), m.foldl (fun a d => a * 256 + d) x = x * 256 ^ m.length + m.foldl (fun a d => a * 256 + d) 0 := by
    intro m
    induction m with
    | nil => intro x; simp
    | cons d m ih =>
      intro x
      simp only [List.foldl_cons, List.length_cons]
      rw [ih (x * 256 + d), ih (0 * 256 + d)]
      rw [Nat.pow_succ, Nat.add_mul, Nat.zero_mul, Nat.zero_add, Nat.mul_assoc, Nat.mul_comm 256, Nat.add_assoc]
  exact key m x
theorem ofBE_be (k n : Nat) : ofBE (be k n) = n % 256 ^ k := by
  induction k generalizing n with
  | zero => simp [be, ofBE, Nat.mod_one]
  | succ k ih =>
    rw [be, ofBE_append, ih]
    simp only [List.length_singleton, Nat.pow_one, ofBE, List.foldl_cons, List.foldl_nil, Nat.zero_mul, Nat.zero_add]
    rw [Nat.pow_succ, Nat.mul_comm (256 ^ k) 256, Nat.mod_mul]
    omega
theorem be_ofBE (l : List Nat) (h : ∀ d ∈ l, d < 256) : be l.length (ofBE l) = l := by
  suffices H : ∀ (r : List Nat), (∀ d ∈ r, d < 256) → be r.length (ofBE r.reverse) = r.reverse by
    have := H l.reverse (by simpa using h)
    simpa using this
  intro r
  induction r with
  | nil => intro _; rfl
  | cons d r ih =>
    intro hr
    have hd := hr d (List.mem_cons_self ..)
    have hr' := ih fun e he => hr e (List.mem_cons_of_mem _ he)
    simp only [List.length_cons, List.reverse_cons]
    rw [be, ofBE_append]
    simp only [List.length_singleton, Nat.pow_one, ofBE, List.foldl_cons, List.foldl_nil, Nat.zero_mul, Nat.zero_add]
    have e1 : (List.foldl (fun a d => a * 256 + d) 0 r.reverse * 256 + d) / 256 = ofBE r.reverse := by unfold ofBE; omega
    have e2 : (List.foldl (fun a d => a * 256 + d) 0 r.reverse * 256 + d) % 256 = d := by omega
    rw [e1, e2, hr']
theorem ofBE_lt (l : List Nat) (h : ∀ d ∈ l, d < 256) : ofBE l < 256 ^ l.length := by
  have := ofBE_be l.length (ofBE l)
  rw [be_ofBE l h] at this
  rw [this]
  exact Nat.mod_lt _ (Nat.pow_pos (by decide))
/-- the limbs of a word -/
def limb (n i : Nat) : Nat := n / 18446744073709551616 ^ i % 18446744073709551616
def wL (n : Nat) : List Value := uL [limb n 0, limb n 1, limb n 2, limb n 3]
/-- an address, a word of 32 bytes -/
def aL (a : Nat) : List Value := bL (be 20 a)
def w32 (n : Nat) : List Value := bL (be 32 n)
theorem limb_lt (n i : Nat) : limb n i < 18446744073709551616 := Nat.mod_lt _ (by decide)
/-! 'or' of parts that do not meet -/
theorem or_add {m p i : Nat} (hm : m < 2 ^ i) (hp : p % 2 ^ i = 0) : m ||| p = m + p := by
  have h1 : p = 2 ^ i * (p / 2 ^ i) := by
    have := Nat.div_add_mod p (2 ^ i)
    omega
  rw [h1, Nat.or_comm, ← Nat.two_pow_add_eq_or_of_lt hm, Nat.add_comm]
section
variable {S : World → Prop} {n : Nat} {s : Nat → Value} {d : Option Nat} {ty : TypeId} {pos : String} {af : Array Edge} {g : Option (Nat × Bool)}
theorem y_andM {x y : Operand} {T T' : Nat} {k : IntKind} {m p M : Nat} (i N : Nat) (hU : UK k M) (hx : ev n s x = .int k m) (hy : ev n s y = .int k p) (hm : m < M) (hN : 2 ^ i = N) (hp : p = 2 ^ i - 1) (hpM : 2 ^ i - 1 < M) : Yv S n s ⟨d, .binOp .and T x y T', ty, pos, af, g⟩ (.int k ((m % N : Nat) : Int)) := by
  subst hp; subst hN
  have := y_and (S := S) (T := T) (T' := T') (d := d) (ty := ty) (pos := pos) (af := af) (g := g) hU hx hy hm hpM
  rw [Nat.and_two_pow_sub_one_eq_mod] at this
  exact this
theorem y_orS {x y : Operand} {T T' : Nat} {k : IntKind} {m p M : Nat} (i : Nat) (hU : UK k M) (hx : ev n s x = .int k m) (hy : ev n s y = .int k p) (hm : m < 2 ^ i) (hp : p % 2 ^ i = 0) (hpM : p < M) (hmM : m < M) : Yv S n s ⟨d, .binOp .or T x y T', ty, pos, af, g⟩ (.int k ((m + p : Nat) : Int)) := by
  have := y_or (S := S) (T := T) (T' := T') (d := d) (ty := ty) (pos := pos) (af := af) (g := g) hU hx hy hmM hpM
  rw [or_add hm hp] at this
  exact this
end
end Go.Proofs.YgvaawGreat
