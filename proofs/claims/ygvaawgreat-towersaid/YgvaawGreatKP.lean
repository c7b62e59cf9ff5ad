import Derived.Test.YgvaawGreatK14
set_option maxRecDepth 100000
set_option linter.unusedSimpArgs false
set_option linter.unusedVariables false
namespace Go.Proofs.YgvaawGreat
open Go
structure Bt (n : Nat) (f : Nat → Bool) : Prop where
  lt : n < 18446744073709551616
  bit : ∀ z, z < 64 → n.testBit z = f z
theorem Bt.high {n : Nat} {f : Nat → Bool} (h : Bt n f) {z : Nat} (hz : 64 ≤ z) : n.testBit z = false :=
  Nat.testBit_lt_two_pow (Nat.lt_of_lt_of_le h.lt (by rw [show (18446744073709551616 : Nat) = 2 ^ 64 by decide]; exact Nat.pow_le_pow_right (by decide) hz))
theorem Bt.xor {a b : Nat} {f g : Nat → Bool} (ha : Bt a f) (hb : Bt b g) : Bt (a ^^^ b) (fun z => f z ^^ g z) :=
  ⟨x64 ha.lt hb.lt, fun z hz => by rw [Nat.testBit_xor, ha.bit z hz, hb.bit z hz]⟩
theorem Bt.notand {a b : Nat} {f g : Nat → Bool} (ha : Bt a f) (hb : Bt b g) : Bt ((18446744073709551615 - a) &&& b) (fun z => !f z && g z) :=
  ⟨and64 hb.lt, fun z hz => by
    have h := Nat.testBit_two_pow_sub_succ (n := 64) (x := a) (by have := ha.lt; omega) z
    rw [Nat.testBit_and, hb.bit z hz, show 18446744073709551615 - a = 2 ^ 64 - (a + 1) by omega, h, ha.bit z hz]
    simp [hz]⟩
theorem Bt.id0 {a : Nat} {f : Nat → Bool} (ha : Bt a f) : Bt a (fun z => f ((z + 64 - 0) % 64)) :=
  ⟨ha.lt, fun z hz => by rw [ha.bit z hz, show (z + 64 - 0) % 64 = z by omega]⟩
theorem Bt.rot {a : Nat} {f : Nat → Bool} (k : Nat) (ha : Bt a f) (hk : k < 64) : Bt (rotl a k) (fun z => f ((z + 64 - k) % 64)) :=
  ⟨rotl_lt64 ha.lt hk, fun z hz => by
    have hlow : a / 2 ^ (64 - k) < 2 ^ k := by
      rw [Nat.div_lt_iff_lt_mul (Nat.pow_pos (by decide)), ← Nat.pow_add, show k + (64 - k) = 64 by omega]
      exact ha.lt
    have hhi : a * 2 ^ k % 18446744073709551616 % 2 ^ k = 0 := by
      rw [show (18446744073709551616 : Nat) = 2 ^ k * 2 ^ (64 - k) by rw [← Nat.pow_add, show k + (64 - k) = 64 by omega], Nat.mod_mul_right_mod]
      exact Nat.mul_mod_left _ _
    unfold rotl
    rw [Nat.add_comm, ← or_add hlow hhi, Nat.testBit_or, show (18446744073709551616 : Nat) = 2 ^ 64 by decide, Nat.testBit_mod_two_pow, Nat.testBit_div_two_pow, Nat.mul_comm, Nat.testBit_two_pow_mul]
    by_cases h : k ≤ z
    · rw [ha.high (show 64 ≤ z + (64 - k) by omega), show (z + 64 - k) % 64 = z - k by omega, ← ha.bit (z - k) (by omega)]
      simp [hz, h]
    · rw [show (z + 64 - k) % 64 = z + (64 - k) by omega, ← ha.bit _ (by omega)]
      simp [h]⟩
theorem Bt.rot1 {a : Nat} {f : Nat → Bool} (ha : Bt a f) : Bt (rotl a 1) (fun z => f ((z + 63) % 64)) :=
  ⟨rotl_lt64 ha.lt (by decide), fun z hz => by rw [(ha.rot 1 (by decide)).bit z hz]; rw [show z + 64 - 1 = z + 63 by omega]⟩
theorem Bt.rho {a x y : Nat} {A : KS} (k : Nat) (hk : k < 64) (e : kOff x y = k) (h : Bt a (A x y)) : Bt (rotl a k) (kRho A x y) := by
  subst e
  exact h.rot _ hk
theorem Bt.rho0 {a x y : Nat} {A : KS} (e : kOff x y = 0) (h : Bt a (A x y)) : Bt a (kRho A x y) :=
  ⟨h.lt, fun z hz => by unfold kRho; rw [e, h.id0.bit z hz]⟩
theorem Bt.theta {a d x y : Nat} {A : KS} (h : Bt a (A x y)) (hd : Bt d (fun z => kC A ((x + 4) % 5) z ^^ kC A ((x + 1) % 5) ((z + 63) % 64))) : Bt (a ^^^ d) (kTheta A x y) := h.xor hd
structure LK (l : List Nat) (A : KS) : Prop where
  at' : ∀ x y, x < 5 → y < 5 → Bt (l[5 * y + x]?.getD 0) (A x y)
theorem be_at : ∀ (n x r : Nat), r < n → (be n x)[n - 1 - r]? = some (x / 256 ^ r % 256)
  | 0, _, r, h => absurd h (by omega)
  | n + 1, x, r, h => by
    rw [be]
    by_cases h0 : r = 0
    · subst h0
      rw [List.getElem?_append_right (by rw [length_be]; omega), length_be]
      simp
    · rw [List.getElem?_append_left (by rw [length_be]; omega)]
      have := be_at n (x / 256) (r - 1) (by omega)
      rw [show n + 1 - 1 - r = n - 1 - (r - 1) by omega, this, Nat.div_div_eq_div_mul, ← Nat.pow_succ', Nat.succ_eq_add_one, show r - 1 + 1 = r by omega]
theorem be8_get (x : Nat) {r : Nat} (h : r < 8) : (be 8 x)[7 - r]? = some (x / 256 ^ r % 256) := be_at 8 x r h
theorem LK.of25 {l : List Nat} {A : KS} (h : ∀ i, i < 25 → Bt (l[i]?.getD 0) (A (i % 5) (i / 5))) : LK l A := ⟨fun x y hx hy => by
  have := h (5 * y + x) (by omega)
  rw [show (5 * y + x) % 5 = x by omega, show (5 * y + x) / 5 = y by omega] at this
  exact this⟩
def LB : List Nat → Nat → KS → Prop
  | [], _, _ => True
  | a :: l, i, A => Bt a (A (i % 5) (i / 5)) ∧ LB l (i + 1) A
theorem LB.at : ∀ {l : List Nat} {i : Nat} {A : KS}, LB l i A → ∀ j, j < l.length → Bt (l[j]?.getD 0) (A ((i + j) % 5) ((i + j) / 5))
  | [], _, _, _, j, h => absurd h (by simp)
  | a :: l, i, A, h, 0, _ => h.1
  | a :: l, i, A, h, j + 1, hj => by
    have := LB.at h.2 j (by simpa using hj)
    rw [show i + 1 + j = i + (j + 1) by omega] at this
    exact this
theorem LB.lk {l : List Nat} {A : KS} (h : LB l 0 A) (hl : l.length = 25) : LK l A := LK.of25 fun i hi => by
  have := h.at i (by omega)
  rw [Nat.zero_add] at this
  exact this
def kRnd0 (A : KS) : KS := kChi (kPi (kRho (kTheta A)))
theorem rndL_bt {a0 a1 a2 a3 a4 a5 a6 a7 a8 a9 a10 a11 a12 a13 a14 a15 a16 a17 a18 a19 a20 a21 a22 a23 a24 : Nat} {A : KS} (h0 : Bt a0 (A 0 0)) (h1 : Bt a1 (A 1 0)) (h2 : Bt a2 (A 2 0)) (h3 : Bt a3 (A 3 0)) (h4 : Bt a4 (A 4 0)) (h5 : Bt a5 (A 0 1)) (h6 : Bt a6 (A 1 1)) (h7 : Bt a7 (A 2 1)) (h8 : Bt a8 (A 3 1)) (h9 : Bt a9 (A 4 1)) (h10 : Bt a10 (A 0 2)) (h11 : Bt a11 (A 1 2)) (h12 : Bt a12 (A 2 2)) (h13 : Bt a13 (A 3 2)) (h14 : Bt a14 (A 4 2)) (h15 : Bt a15 (A 0 3)) (h16 : Bt a16 (A 1 3)) (h17 : Bt a17 (A 2 3)) (h18 : Bt a18 (A 3 3)) (h19 : Bt a19 (A 4 3)) (h20 : Bt a20 (A 0 4)) (h21 : Bt a21 (A 1 4)) (h22 : Bt a22 (A 2 4)) (h23 : Bt a23 (A 3 4)) (h24 : Bt a24 (A 4 4)) : LK (rndL a0 a1 a2 a3 a4 a5 a6 a7 a8 a9 a10 a11 a12 a13 a14 a15 a16 a17 a18 a19 a20 a21 a22 a23 a24) (kRnd0 A) := by
  unfold rndL
  extract_lets c0 c1 c2 c3 c4 d0 d1 d2 d3 d4 s0 s1 s2 s3 s4 t0 t1 t2 t3 t4 u0 u1 u2 u3 u4 v0 v1 v2 v3 v4 x0 x1 x2 x3 x4
  have hc0 : Bt c0 (kC A 0) := ((((h0.xor h5).xor h10).xor h15).xor h20)
  clear_value c0
  have hc1 : Bt c1 (kC A 1) := ((((h1.xor h6).xor h11).xor h16).xor h21)
  clear_value c1
  have hc2 : Bt c2 (kC A 2) := ((((h2.xor h7).xor h12).xor h17).xor h22)
  clear_value c2
  have hc3 : Bt c3 (kC A 3) := ((((h3.xor h8).xor h13).xor h18).xor h23)
  clear_value c3
  have hc4 : Bt c4 (kC A 4) := ((((h4.xor h9).xor h14).xor h19).xor h24)
  clear_value c4
  have hd0 : Bt d0 (fun z => kC A 4 z ^^ kC A 1 ((z + 63) % 64)) := hc4.xor hc1.rot1
  clear_value d0
  have hd1 : Bt d1 (fun z => kC A 0 z ^^ kC A 2 ((z + 63) % 64)) := hc0.xor hc2.rot1
  clear_value d1
  have hd2 : Bt d2 (fun z => kC A 1 z ^^ kC A 3 ((z + 63) % 64)) := hc1.xor hc3.rot1
  clear_value d2
  have hd3 : Bt d3 (fun z => kC A 2 z ^^ kC A 4 ((z + 63) % 64)) := hc2.xor hc4.rot1
  clear_value d3
  have hd4 : Bt d4 (fun z => kC A 3 z ^^ kC A 0 ((z + 63) % 64)) := hc3.xor hc0.rot1
  clear_value d4
  have e0 : Bt (a0 ^^^ d0) (kTheta A 0 0) := h0.theta hd0
  have e1 : Bt (a1 ^^^ d1) (kTheta A 1 0) := h1.theta hd1
  have e2 : Bt (a2 ^^^ d2) (kTheta A 2 0) := h2.theta hd2
  have e3 : Bt (a3 ^^^ d3) (kTheta A 3 0) := h3.theta hd3
  have e4 : Bt (a4 ^^^ d4) (kTheta A 4 0) := h4.theta hd4
  have e5 : Bt (a5 ^^^ d0) (kTheta A 0 1) := h5.theta hd0
  have e6 : Bt (a6 ^^^ d1) (kTheta A 1 1) := h6.theta hd1
  have e7 : Bt (a7 ^^^ d2) (kTheta A 2 1) := h7.theta hd2
  have e8 : Bt (a8 ^^^ d3) (kTheta A 3 1) := h8.theta hd3
  have e9 : Bt (a9 ^^^ d4) (kTheta A 4 1) := h9.theta hd4
  have e10 : Bt (a10 ^^^ d0) (kTheta A 0 2) := h10.theta hd0
  have e11 : Bt (a11 ^^^ d1) (kTheta A 1 2) := h11.theta hd1
  have e12 : Bt (a12 ^^^ d2) (kTheta A 2 2) := h12.theta hd2
  have e13 : Bt (a13 ^^^ d3) (kTheta A 3 2) := h13.theta hd3
  have e14 : Bt (a14 ^^^ d4) (kTheta A 4 2) := h14.theta hd4
  have e15 : Bt (a15 ^^^ d0) (kTheta A 0 3) := h15.theta hd0
  have e16 : Bt (a16 ^^^ d1) (kTheta A 1 3) := h16.theta hd1
  have e17 : Bt (a17 ^^^ d2) (kTheta A 2 3) := h17.theta hd2
  have e18 : Bt (a18 ^^^ d3) (kTheta A 3 3) := h18.theta hd3
  have e19 : Bt (a19 ^^^ d4) (kTheta A 4 3) := h19.theta hd4
  have e20 : Bt (a20 ^^^ d0) (kTheta A 0 4) := h20.theta hd0
  have e21 : Bt (a21 ^^^ d1) (kTheta A 1 4) := h21.theta hd1
  have e22 : Bt (a22 ^^^ d2) (kTheta A 2 4) := h22.theta hd2
  have e23 : Bt (a23 ^^^ d3) (kTheta A 3 4) := h23.theta hd3
  have e24 : Bt (a24 ^^^ d4) (kTheta A 4 4) := h24.theta hd4
  have r0 : Bt s0 (kRho (kTheta A) 0 0) := e0.rho0 (by decide)
  clear_value s0
  have r1 : Bt u0 (kRho (kTheta A) 1 0) := e1.rho 1 (by decide) (by decide)
  clear_value u0
  have r2 : Bt x0 (kRho (kTheta A) 2 0) := e2.rho 62 (by decide) (by decide)
  clear_value x0
  have r3 : Bt t0 (kRho (kTheta A) 3 0) := e3.rho 28 (by decide) (by decide)
  clear_value t0
  have r4 : Bt v0 (kRho (kTheta A) 4 0) := e4.rho 27 (by decide) (by decide)
  clear_value v0
  have r5 : Bt v1 (kRho (kTheta A) 0 1) := e5.rho 36 (by decide) (by decide)
  clear_value v1
  have r6 : Bt s1 (kRho (kTheta A) 1 1) := e6.rho 44 (by decide) (by decide)
  clear_value s1
  have r7 : Bt u1 (kRho (kTheta A) 2 1) := e7.rho 6 (by decide) (by decide)
  clear_value u1
  have r8 : Bt x1 (kRho (kTheta A) 3 1) := e8.rho 55 (by decide) (by decide)
  clear_value x1
  have r9 : Bt t1 (kRho (kTheta A) 4 1) := e9.rho 20 (by decide) (by decide)
  clear_value t1
  have r10 : Bt t2 (kRho (kTheta A) 0 2) := e10.rho 3 (by decide) (by decide)
  clear_value t2
  have r11 : Bt v2 (kRho (kTheta A) 1 2) := e11.rho 10 (by decide) (by decide)
  clear_value v2
  have r12 : Bt s2 (kRho (kTheta A) 2 2) := e12.rho 43 (by decide) (by decide)
  clear_value s2
  have r13 : Bt u2 (kRho (kTheta A) 3 2) := e13.rho 25 (by decide) (by decide)
  clear_value u2
  have r14 : Bt x2 (kRho (kTheta A) 4 2) := e14.rho 39 (by decide) (by decide)
  clear_value x2
  have r15 : Bt x3 (kRho (kTheta A) 0 3) := e15.rho 41 (by decide) (by decide)
  clear_value x3
  have r16 : Bt t3 (kRho (kTheta A) 1 3) := e16.rho 45 (by decide) (by decide)
  clear_value t3
  have r17 : Bt v3 (kRho (kTheta A) 2 3) := e17.rho 15 (by decide) (by decide)
  clear_value v3
  have r18 : Bt s3 (kRho (kTheta A) 3 3) := e18.rho 21 (by decide) (by decide)
  clear_value s3
  have r19 : Bt u3 (kRho (kTheta A) 4 3) := e19.rho 8 (by decide) (by decide)
  clear_value u3
  have r20 : Bt u4 (kRho (kTheta A) 0 4) := e20.rho 18 (by decide) (by decide)
  clear_value u4
  have r21 : Bt x4 (kRho (kTheta A) 1 4) := e21.rho 2 (by decide) (by decide)
  clear_value x4
  have r22 : Bt t4 (kRho (kTheta A) 2 4) := e22.rho 61 (by decide) (by decide)
  clear_value t4
  have r23 : Bt v4 (kRho (kTheta A) 3 4) := e23.rho 56 (by decide) (by decide)
  clear_value v4
  have r24 : Bt s4 (kRho (kTheta A) 4 4) := e24.rho 14 (by decide) (by decide)
  clear_value s4
  generalize hB : kRho (kTheta A) = B at *
  have o0 : Bt _ (kChi (kPi B) 0 0) := r0.xor (r6.notand r12)
  have o1 : Bt _ (kChi (kPi B) 1 0) := r6.xor (r12.notand r18)
  have o2 : Bt _ (kChi (kPi B) 2 0) := r12.xor (r18.notand r24)
  have o3 : Bt _ (kChi (kPi B) 3 0) := r18.xor (r24.notand r0)
  have o4 : Bt _ (kChi (kPi B) 4 0) := r24.xor (r0.notand r6)
  have o5 : Bt _ (kChi (kPi B) 0 1) := r3.xor (r9.notand r10)
  have o6 : Bt _ (kChi (kPi B) 1 1) := r9.xor (r10.notand r16)
  have o7 : Bt _ (kChi (kPi B) 2 1) := r10.xor (r16.notand r22)
  have o8 : Bt _ (kChi (kPi B) 3 1) := r16.xor (r22.notand r3)
  have o9 : Bt _ (kChi (kPi B) 4 1) := r22.xor (r3.notand r9)
  have o10 : Bt _ (kChi (kPi B) 0 2) := r1.xor (r7.notand r13)
  have o11 : Bt _ (kChi (kPi B) 1 2) := r7.xor (r13.notand r19)
  have o12 : Bt _ (kChi (kPi B) 2 2) := r13.xor (r19.notand r20)
  have o13 : Bt _ (kChi (kPi B) 3 2) := r19.xor (r20.notand r1)
  have o14 : Bt _ (kChi (kPi B) 4 2) := r20.xor (r1.notand r7)
  have o15 : Bt _ (kChi (kPi B) 0 3) := r4.xor (r5.notand r11)
  have o16 : Bt _ (kChi (kPi B) 1 3) := r5.xor (r11.notand r17)
  have o17 : Bt _ (kChi (kPi B) 2 3) := r11.xor (r17.notand r23)
  have o18 : Bt _ (kChi (kPi B) 3 3) := r17.xor (r23.notand r4)
  have o19 : Bt _ (kChi (kPi B) 4 3) := r23.xor (r4.notand r5)
  have o20 : Bt _ (kChi (kPi B) 0 4) := r2.xor (r8.notand r14)
  have o21 : Bt _ (kChi (kPi B) 1 4) := r8.xor (r14.notand r15)
  have o22 : Bt _ (kChi (kPi B) 2 4) := r14.xor (r15.notand r21)
  have o23 : Bt _ (kChi (kPi B) 3 4) := r15.xor (r21.notand r2)
  have o24 : Bt _ (kChi (kPi B) 4 4) := r21.xor (r2.notand r8)
  unfold kRnd0
  rw [hB]
  exact LB.lk (show LB [_, _, _, _, _, _, _, _, _, _, _, _, _, _, _, _, _, _, _, _, _, _, _, _, _] 0 _ from ⟨o0, o1, o2, o3, o4, o5, o6, o7, o8, o9, o10, o11, o12, o13, o14, o15, o16, o17, o18, o19, o20, o21, o22, o23, o24, trivial⟩) rfl
theorem rnd_bt {l : List Nat} {A : KS} (hl : Lan l) (h : LK l A) : LK (rnd l) (kRnd0 A) := by
  obtain ⟨a0, a1, a2, a3, a4, a5, a6, a7, a8, a9, a10, a11, a12, a13, a14, a15, a16, a17, a18, a19, a20, a21, a22, a23, a24, rfl⟩ := hl.form
  exact rndL_bt (h.at' 0 0 (by decide) (by decide)) (h.at' 1 0 (by decide) (by decide)) (h.at' 2 0 (by decide) (by decide)) (h.at' 3 0 (by decide) (by decide)) (h.at' 4 0 (by decide) (by decide)) (h.at' 0 1 (by decide) (by decide)) (h.at' 1 1 (by decide) (by decide)) (h.at' 2 1 (by decide) (by decide)) (h.at' 3 1 (by decide) (by decide)) (h.at' 4 1 (by decide) (by decide)) (h.at' 0 2 (by decide) (by decide)) (h.at' 1 2 (by decide) (by decide)) (h.at' 2 2 (by decide) (by decide)) (h.at' 3 2 (by decide) (by decide)) (h.at' 4 2 (by decide) (by decide)) (h.at' 0 3 (by decide) (by decide)) (h.at' 1 3 (by decide) (by decide)) (h.at' 2 3 (by decide) (by decide)) (h.at' 3 3 (by decide) (by decide)) (h.at' 4 3 (by decide) (by decide)) (h.at' 0 4 (by decide) (by decide)) (h.at' 1 4 (by decide) (by decide)) (h.at' 2 4 (by decide) (by decide)) (h.at' 3 4 (by decide) (by decide)) (h.at' 4 4 (by decide) (by decide))
theorem rnd1_bt {l : List Nat} {A : KS} (i : Nat) (hl : Lan l) (h : LK l A) : LK (rnd1 i l) (kRound i A) := by
  have hr := rnd_bt hl h
  have hL := (rnd_lan hl).len
  refine ⟨fun x y hx hy => ?_⟩
  unfold rnd1
  rw [List.getElem?_set]
  by_cases h0 : 0 = 5 * y + x
  · have hx0 : x = 0 := by omega
    have hy0 : y = 0 := by omega
    subst hx0; subst hy0
    rw [if_pos rfl, if_pos (by rw [hL]; decide)]
    have := hr.at' 0 0 (by decide) (by decide)
    refine ⟨x64 this.lt (kRC_lt i), fun z hz => ?_⟩
    show (_ ^^^ _ : Nat).testBit z = kIota i (kRnd0 A) 0 0 z
    unfold kIota
    rw [Nat.testBit_xor, if_pos ⟨rfl, rfl⟩, ← this.bit z hz]
  · rw [if_neg h0]
    have := hr.at' x y hx hy
    refine ⟨this.lt, fun z hz => ?_⟩
    show _ = kIota i (kRnd0 A) x y z
    unfold kIota
    rw [if_neg (by omega)]
    exact this.bit z hz
theorem rndN_bt {l : List Nat} {A : KS} (hl : Lan l) (h : LK l A) : ∀ n, LK (rndN n l) (kPerm n A)
  | 0 => h
  | n + 1 => rnd1_bt n (rndN_lan hl n) (rndN_bt hl h n)
theorem LK.congr {l : List Nat} {A B : KS} (h : LK l A) (e : ∀ x y z, x < 5 → y < 5 → z < 64 → A x y z = B x y z) : LK l B :=
  ⟨fun x y hx hy => ⟨(h.at' x y hx hy).lt, fun z hz => by rw [(h.at' x y hx hy).bit z hz, e x y z hx hy hz]⟩⟩
theorem toA_kF {s : Nat → Bool} {x y z : Nat} (hx : x < 5) (hy : y < 5) (hz : z < 64) : kPerm 24 (toA s) x y z = toA (kF s) x y z := by
  unfold toA kF
  show _ = kPerm 24 (toA s) _ _ _
  rw [show (64 * (5 * y + x) + z) / 64 % 5 = x by omega, show (64 * (5 * y + x) + z) / 320 = y by omega, show (64 * (5 * y + x) + z) % 64 = z by omega]
  rfl
/-! a number's bytes turned round -/
theorem bM1 : ∀ z : Fin 64, (71777214294589695 : Nat).testBit z.1 = decide (z.1 / 8 % 2 = 0) := by decide
theorem bM2 : ∀ z : Fin 64, (281470681808895 : Nat).testBit z.1 = decide (z.1 / 16 % 2 = 0) := by decide
theorem bt_trn {x k M : Nat} {f : Nat → Bool} (p : Nat → Bool) (hk : k < 64) (hx : Bt x f) (hM : ∀ z, z < 64 → M.testBit z = p z) (hp : ∀ z, z < 64 → p z = true → z + k < 64) (hq : ∀ z, z < 64 → p z = false → k ≤ z ∧ p (z - k) = true) (hr : ∀ z, z < 64 → p z = true → k ≤ z → p (z - k) = false) : Bt ((x / 2 ^ k &&& M) ||| ((x &&& M) * 2 ^ k % 18446744073709551616)) (fun z => if p z then f (z + k) else f (z - k)) :=
  ⟨or64 (Nat.lt_of_le_of_lt Nat.and_le_left (shr64 hx.lt)) (mod64 _), fun z hz => by
    rw [Nat.testBit_or, Nat.testBit_and, Nat.testBit_div_two_pow, hM z hz, show (18446744073709551616 : Nat) = 2 ^ 64 by decide, Nat.testBit_mod_two_pow, Nat.mul_comm, Nat.testBit_two_pow_mul, Nat.testBit_and]
    cases hpz : p z with
    | true =>
      rw [if_pos rfl, hx.bit _ (hp z hz hpz)]
      by_cases h : k ≤ z
      · rw [hM (z - k) (by omega), hr z hz hpz h]
        simp
      · simp [h]
    | false =>
      obtain ⟨h1, h2⟩ := hq z hz hpz
      rw [if_neg (by decide), hM (z - k) (by omega), h2, hx.bit (z - k) (by omega)]
      simp [h1, hz]⟩
theorem bt_trn3 {x : Nat} {f : Nat → Bool} (hx : Bt x f) : Bt (trn3 x) (fun z => if z < 32 then f (z + 32) else f (z - 32)) :=
  ⟨or64 (shr64 hx.lt) (mod64 _), fun z hz => by
    unfold trn3
    rw [Nat.testBit_or, show (4294967296 : Nat) = 2 ^ 32 by decide, Nat.testBit_div_two_pow, show (18446744073709551616 : Nat) = 2 ^ 64 by decide, Nat.testBit_mod_two_pow, Nat.mul_comm, Nat.testBit_two_pow_mul]
    by_cases h : z < 32
    · rw [if_pos h, ← hx.bit (z + 32) (by omega)]
      simp [show ¬ 32 ≤ z by omega]
    · rw [if_neg h, ← hx.bit (z - 32) (by omega), hx.high (show 64 ≤ z + 32 by omega)]
      simp [show 32 ≤ z by omega, hz]⟩
theorem bt_trnN {x : Nat} {f : Nat → Bool} (hx : Bt x f) : Bt (trnN x) (fun z => f (8 * (7 - z / 8) + z % 8)) := by
  have h1 := bt_trn (k := 8) (M := 71777214294589695) (fun z => decide (z / 8 % 2 = 0)) (by decide) hx (fun z hz => bM1 ⟨z, hz⟩) (fun z hz h => by have := of_decide_eq_true h; omega) (fun z hz h => by have := of_decide_eq_false h; exact ⟨by omega, by apply decide_eq_true; omega⟩) (fun z hz h hk => by have := of_decide_eq_true h; apply decide_eq_false; omega)
  have h2 := bt_trn (k := 16) (M := 281470681808895) (fun z => decide (z / 16 % 2 = 0)) (by decide) h1 (fun z hz => bM2 ⟨z, hz⟩) (fun z hz h => by have := of_decide_eq_true h; omega) (fun z hz h => by have := of_decide_eq_false h; exact ⟨by omega, by apply decide_eq_true; omega⟩) (fun z hz h hk => by have := of_decide_eq_true h; apply decide_eq_false; omega)
  have h3 := bt_trn3 h2
  refine ⟨h3.lt, fun z hz => ?_⟩
  have e : trnN x = trn3 (x / 2 ^ 8 &&& 71777214294589695 ||| (x &&& 71777214294589695) * 2 ^ 8 % 18446744073709551616 |> fun y => y / 2 ^ 16 &&& 281470681808895 ||| (y &&& 281470681808895) * 2 ^ 16 % 18446744073709551616) := rfl
  have hb := h3.bit z hz
  rw [e]
  refine hb.trans ?_
  simp only [decide_eq_true_eq]
  have : ∀ z : Fin 64, ∀ f : Nat → Bool, True := fun _ _ => trivial
  split <;> split <;> split <;> (congr 1; omega)
theorem bt_be {m : List Nat} {j : Nat} (hd : Dig 256 m) (hj : 8 * j + 8 ≤ m.length) : Bt (w8 m j) (fun z => (m[8 * j + (7 - z / 8)]?.getD 0).testBit (z % 8)) := by
  refine ⟨w8_lt hd j, fun z hz => ?_⟩
  unfold w8
  have hD : ∀ d ∈ (m.drop (8 * j)).take 8, d < 256 := fun d h => hd d (List.mem_of_mem_drop (List.mem_of_mem_take h))
  have hL : ((m.drop (8 * j)).take 8).length = 8 := by rw [List.length_take, List.length_drop]; omega
  have hb := be_ofBE _ hD
  rw [hL] at hb
  generalize ofBE ((m.drop (8 * j)).take 8) = x at hb ⊢
  have hg : (be 8 x)[7 - z / 8]? = some (x / 256 ^ (z / 8) % 256) := be8_get x (by omega)
  rw [hb, List.getElem?_take, if_pos (by omega), List.getElem?_drop] at hg
  rw [hg, Option.getD_some, show (256 : Nat) = 2 ^ 8 by decide, ← Nat.pow_mul, Nat.testBit_mod_two_pow, Nat.testBit_div_two_pow]
  simp only [show z % 8 < 8 by omega, decide_true, Bool.true_and]
  congr 1
  omega
/-! the bits of bytes -/
theorem kBits_len : ∀ l : List Nat, (kBits l).length = 8 * l.length
  | [] => rfl
  | c :: l => by
    have := kBits_len l
    unfold kBits at this ⊢
    rw [List.flatMap_cons, List.length_append, this, List.length_map, List.length_range, List.length_cons]
    omega
theorem kBits_get : ∀ (l : List Nat) (i : Nat), i < 8 * l.length → (kBits l)[i]? = some ((l[i / 8]?.getD 0).testBit (i % 8))
  | [], i, h => by simp at h
  | c :: l, i, h => by
    have hl : ((List.range 8).map (fun k => c.testBit k)).length = 8 := by simp
    unfold kBits
    rw [List.flatMap_cons]
    by_cases h8 : i < 8
    · rw [List.getElem?_append_left (by rw [hl]; exact h8), List.getElem?_map, List.getElem?_range h8, show i / 8 = 0 by omega, show i % 8 = i by omega]
      rfl
    · rw [List.getElem?_append_right (by rw [hl]; omega), hl]
      have := kBits_get l (i - 8) (by rw [List.length_cons] at h; omega)
      unfold kBits at this
      rw [this, show i / 8 = (i - 8) / 8 + 1 by omega, show (i - 8) % 8 = i % 8 by omega]
      rfl
theorem kAbs_append : ∀ (A B : List Bool) (i : Nat) (s : Nat → Bool), kAbs (A ++ B) i s = kAbs B (i + A.length) (kAbs A i s)
  | [], B, i, s => rfl
  | b :: A, B, i, s => by
    show kAbs (A ++ B) (i + 1) (kTake s i b) = _
    rw [kAbs_append A B, List.length_cons, show i + (A.length + 1) = i + 1 + A.length by omega]
    rfl
def xorB (A : List Bool) (o : Nat) (s : Nat → Bool) : Nat → Bool := fun j => if o ≤ j ∧ j < o + A.length then s j ^^ (A[j - o]?.getD false) else s j
theorem kAbs_part : ∀ (A : List Bool) (i o : Nat) (s : Nat → Bool), i % 1088 = o → o + A.length < 1088 → kAbs A i s = xorB A o s
  | [], i, o, s, _, _ => by
    funext j
    show s j = _
    unfold xorB
    rw [if_neg (by simp only [List.length_nil]; omega)]
  | b :: A, i, o, s, ho, hl => by
    rw [List.length_cons] at hl
    show kAbs A (i + 1) (kTake s i b) = _
    rw [kAbs_part A (i + 1) (o + 1) _ (by omega) (by omega)]
    unfold kTake
    rw [ho, if_neg (by omega)]
    funext j
    unfold xorB
    rw [List.length_cons]
    simp only []
    by_cases h1 : j = o
    · subst h1
      rw [if_neg (by omega), if_pos rfl, if_pos (by omega), Nat.sub_self]
      rfl
    · rw [if_neg h1]
      by_cases h2 : o + 1 ≤ j ∧ j < o + 1 + A.length
      · rw [if_pos h2, if_pos (by omega), show j - o = (j - (o + 1)) + 1 by omega]
        rfl
      · rw [if_neg h2, if_neg (by omega)]
theorem kAbs_block {A : List Bool} {i : Nat} {s : Nat → Bool} (hi : i % 1088 = 0) (hl : A.length = 1088) : kAbs A i s = kF (xorB A 0 s) := by
  have hA : A = A.take 1087 ++ [A[1087]?.getD false] := by
    rw [List.getElem?_eq_getElem (by omega)]
    apply List.ext_getElem (by simp; omega)
    intro n h1 h2
    rw [List.getElem_append]
    split
    · rw [List.getElem_take]
    · rename_i h3
      rw [List.length_take] at h3
      have : n = 1087 := by omega
      subst this
      simp
  have h2 : kAbs A i s = kTake (kAbs (A.take 1087) i s) (i + 1087) (A[1087]?.getD false) := by
    rw [hA, kAbs_append]
    have hlt : (A.take 1087).length = 1087 := by rw [List.length_take]; omega
    rw [hlt, List.take_append_of_le_length (by omega), List.take_take, show min 1087 1087 = 1087 from rfl, List.getElem?_append_right (by omega), hlt]
    rfl
  rw [h2, kAbs_part _ i 0 s hi (by rw [List.length_take]; omega)]
  unfold kTake
  rw [show (i + 1087) % 1088 = 1087 by omega, if_pos rfl]
  congr 1
  funext j
  unfold xorB
  rw [List.length_take, hl]
  by_cases h1 : j = 1087
  · subst h1
    rw [if_pos rfl, if_neg (by omega), if_pos (by omega)]
  · rw [if_neg h1]
    by_cases h3 : j < 1088
    · rw [if_pos (by omega), if_pos (by omega), List.getElem?_take, if_pos (by omega)]
    · rw [if_neg (by omega), if_neg (by omega)]
theorem abs_bt {l m : List Nat} {s : Nat → Bool} (hl : Lan l) (hd : Dig 256 m) (hm : m.length = 136) (h : LK l (toA s)) : LK (absL l m) (toA (kF (xorB (kBits m) 0 s))) := by
  have hx : LK (xorK m 17 l) (toA (xorB (kBits m) 0 s)) := by
    refine ⟨fun x y hx hy => ?_⟩
    have hxy := h.at' x y hx hy
    have hlt : 5 * y + x < l.length := by rw [hl.len]; omega
    unfold xorK
    rw [List.getElem?_mapIdx]
    rw [List.getElem?_eq_getElem hlt] at hxy ⊢
    rw [Option.getD_some] at hxy
    rw [Option.map_some, Option.getD_some]
    by_cases h17 : 5 * y + x < 17
    · rw [if_pos h17]
      have h2 := hxy.xor (bt_trnN (bt_be (j := 5 * y + x) hd (by omega)))
      refine ⟨h2.lt, fun z hz => ?_⟩
      rw [h2.bit z hz]
      unfold toA xorB
      rw [kBits_len, hm, if_pos (by omega), Nat.sub_zero, kBits_get m _ (by omega), Option.getD_some]
      rw [show (8 * (7 - z / 8) + z % 8) / 8 = 7 - z / 8 by omega, show 8 * (5 * y + x) + (7 - (7 - z / 8)) = (64 * (5 * y + x) + z) / 8 by omega, show (8 * (7 - z / 8) + z % 8) % 8 = (64 * (5 * y + x) + z) % 8 by omega]
    · rw [if_neg h17]
      refine ⟨hxy.lt, fun z hz => ?_⟩
      rw [hxy.bit z hz]
      unfold toA xorB
      rw [kBits_len, hm, if_neg (by omega)]
  exact (rndN_bt (xorK_lan hd hl 17) hx 24).congr fun x y z hx hy hz => toA_kF hx hy hz
theorem kAbs_bytes {m : List Nat} {i : Nat} {s : Nat → Bool} (hi : i % 1088 = 0) (hm : m.length = 136) : kAbs (kBits m) i s = kF (xorB (kBits m) 0 s) := kAbs_block hi (by rw [kBits_len, hm])
theorem padK_get {l : List Nat} {i : Nat} (h : ¬ 136 ≤ l.length) (hi : i < 136) : (padK l)[i]? = some (if i < l.length then l[i]?.getD 0 else (if i = l.length then 1 else 0) ||| (if i = 135 then 128 else 0)) := by
  have hL : (l ++ List.replicate (136 - l.length) 0).length = 136 := by rw [List.length_append, List.length_replicate]; omega
  have hg : ∀ j, j < 136 → ((l ++ List.replicate (136 - l.length) 0).set l.length 1)[j]? = some (if j < l.length then l[j]?.getD 0 else if j = l.length then 1 else 0) := by
    intro j hj
    rw [List.getElem?_set]
    by_cases h1 : l.length = j
    · rw [if_pos h1, if_pos (by rw [hL]; omega), if_neg (by omega), if_pos h1.symm]
    · rw [if_neg h1]
      by_cases h2 : j < l.length
      · rw [List.getElem?_append_left h2, if_pos h2, List.getElem?_eq_getElem h2]
        rfl
      · rw [List.getElem?_append_right (by omega), if_neg h2, if_neg (by omega), List.getElem?_replicate, if_pos (by omega)]
  unfold padK
  rw [List.getElem?_set]
  by_cases h1 : 135 = i
  · subst h1
    rw [if_pos rfl, if_pos (by rw [List.length_set, hL]; decide), hg 135 hi, Option.getD_some, if_neg (show ¬ 135 < l.length by omega), if_neg (show ¬ 135 < l.length by omega), if_pos (show (135 : Nat) = 135 from rfl)]
  · rw [if_neg h1, hg i hi]
    by_cases h2 : i < l.length
    · rw [if_pos h2, if_pos h2]
    · rw [if_neg h2, if_neg h2, if_neg (show ¬ i = 135 by omega), Nat.or_zero]
theorem b1 : ∀ z : Fin 8, (1 : Nat).testBit z.1 = decide (z.1 = 0) := by decide
theorem b128 : ∀ z : Fin 8, (128 : Nat).testBit z.1 = decide (z.1 = 7) := by decide
theorem ite_tb {p : Prop} [Decidable p] {n z : Nat} : (if p then n else 0 : Nat).testBit z = (decide p && n.testBit z) := by
  by_cases h : p <;> simp [h]
theorem kPad_last {l : List Nat} (h : ¬ 136 ≤ l.length) : kPad l = kBits (padK l) := by
  have hz : (1088 - (8 * l.length + 2) % 1088) % 1088 = 1086 - 8 * l.length := by omega
  apply List.ext_getElem?
  intro i
  have hLen : (kPad l).length = 1088 := by
    unfold kPad
    rw [List.length_append, List.length_append, List.length_append, kBits_len, List.length_replicate, hz]
    simp only [List.length_cons, List.length_nil]
    omega
  by_cases hi : i < 1088
  · rw [kBits_get _ _ (by rw [padK_len h]; omega), padK_get h (by omega), Option.getD_some]
    unfold kPad
    rw [hz]
    by_cases h1 : i < 8 * l.length
    · rw [if_pos (by omega), List.append_assoc, List.append_assoc, List.getElem?_append_left (by rw [kBits_len]; exact h1), kBits_get l i h1]
    · rw [if_neg (by omega), List.append_assoc, List.append_assoc, List.getElem?_append_right (by rw [kBits_len]; omega), kBits_len, Nat.testBit_or, ite_tb, ite_tb, b1 ⟨i % 8, by omega⟩, b128 ⟨i % 8, by omega⟩]
      by_cases h2 : i = 8 * l.length
      · subst h2
        rw [Nat.sub_self]
        simp
      · rw [List.getElem?_append_right (by simp; omega)]
        simp only [List.length_cons, List.length_nil, Nat.zero_add]
        have e1 : (decide (i / 8 = l.length) && decide (i % 8 = 0)) = false := by
          rw [← Bool.decide_and]
          apply decide_eq_false
          omega
        rw [e1, Bool.false_or, ← Bool.decide_and]
        by_cases h3 : i = 1087
        · subst h3
          rw [List.getElem?_append_right (by rw [List.length_replicate]; omega), List.length_replicate, show 1087 - 8 * l.length - 1 - (1086 - 8 * l.length) = 0 by omega]
          rfl
        · rw [List.getElem?_append_left (by rw [List.length_replicate]; omega), List.getElem?_replicate, if_pos (by omega)]
          congr 1
          exact (decide_eq_false (by omega)).symm
  · rw [List.getElem?_eq_none (by omega), List.getElem?_eq_none (by rw [kBits_len, padK_len h]; omega)]
theorem kBits_app (a b : List Nat) : kBits (a ++ b) = kBits a ++ kBits b := by
  unfold kBits
  rw [List.flatMap_append]
theorem kPad_step {l : List Nat} (h : 136 ≤ l.length) : kPad l = kBits (l.take 136) ++ kPad (l.drop 136) := by
  unfold kPad
  have e : kBits l = kBits (l.take 136) ++ kBits (l.drop 136) := by rw [← kBits_app, List.take_append_drop]
  have ez : (1088 - (8 * l.length + 2) % 1088) % 1088 = (1088 - (8 * (l.drop 136).length + 2) % 1088) % 1088 := by
    rw [List.length_drop]
    omega
  rw [e, ez]
  simp only [List.append_assoc]
theorem ks_bt : ∀ {l s : List Nat} {S : Nat → Bool} {i : Nat}, Dig 256 l → Lan s → LK s (toA S) → i % 1088 = 0 → LK (ksL s l) (toA (kAbs (kPad l) i S)) := by
  intro l
  induction hn : l.length using Nat.strongRecOn generalizing l with
  | _ n ih =>
    intro s S i hd hs h hi
    by_cases hL : 136 ≤ l.length
    · have ht : (l.take 136).length = 136 := by rw [List.length_take]; omega
      have hdt : Dig 256 (l.take 136) := fun d h => hd d (List.mem_of_mem_take h)
      rw [ksL_step hL, kPad_step hL, kAbs_append, kAbs_bytes hi ht]
      refine ih (l.drop 136).length (by rw [List.length_drop]; omega) rfl (fun d h => hd d (List.mem_of_mem_drop h)) (abs_lan hdt hs) (abs_bt hs hdt ht h) ?_
      rw [kBits_len, ht]
      omega
    · rw [ksL_last hL, kPad_last hL, kAbs_bytes hi (padK_len hL)]
      exact abs_bt hs (padK_dig hd) (padK_len hL) h
theorem kB256 : ∀ n : Fin 256, (List.range 8).foldl (fun m k => m + if n.1.testBit k then 2 ^ k else 0) 0 = n.1 := by decide
theorem kByte_eq {s : Nat → Bool} {j n : Nat} (hn : n < 256) (h : ∀ k, k < 8 → s (8 * j + k) = n.testBit k) : kByte s j = n := by
  have e : List.range 8 = [0, 1, 2, 3, 4, 5, 6, 7] := by decide
  have h2 := kB256 ⟨n, hn⟩
  unfold kByte
  rw [e] at h2 ⊢
  simp only [List.foldl_cons, List.foldl_nil] at h2 ⊢
  rw [h 0 (by decide), h 1 (by decide), h 2 (by decide), h 3 (by decide), h 4 (by decide), h 5 (by decide), h 6 (by decide), h 7 (by decide)]
  exact h2
theorem outK_four (s : List Nat) : outK s 4 = (List.range 32).map (fun q => (trnN (s[q / 8]?.getD 0) / 256 ^ (7 - q % 8)) % 256) := by
  apply List.ext_getElem?
  intro q
  by_cases hq : q < 32
  · rw [List.getElem?_map, List.getElem?_range hq, Option.map_some]
    unfold outK
    rw [show 32 - 8 * 4 = 0 from rfl, List.replicate_zero, List.append_nil, show List.range 4 = [0, 1, 2, 3] by decide]
    simp only [List.flatMap_cons, List.flatMap_nil, List.append_nil]
    have g : ∀ x k, k < 8 → (be 8 x)[k]? = some (x / 256 ^ (7 - k) % 256) := fun x k hk => by
      have := be8_get x (r := 7 - k) (by omega)
      rw [show 7 - (7 - k) = k by omega] at this
      exact this
    have L : ∀ x, (be 8 x).length = 8 := length_be 8
    rcases Nat.lt_or_ge q 8 with h1 | h1
    · rw [List.getElem?_append_left (by rw [L]; exact h1), g _ _ h1, show q / 8 = 0 by omega, show q % 8 = q by omega]
    · rw [List.getElem?_append_right (by rw [L]; exact h1), L]
      rcases Nat.lt_or_ge q 16 with h2 | h2
      · rw [List.getElem?_append_left (by rw [L]; omega), g _ _ (by omega), show q / 8 = 1 by omega, show q % 8 = q - 8 by omega]
      · rw [List.getElem?_append_right (by rw [L]; omega), L]
        rcases Nat.lt_or_ge q 24 with h3 | h3
        · rw [List.getElem?_append_left (by rw [L]; omega), g _ _ (by omega), show q / 8 = 2 by omega, show q % 8 = q - 8 - 8 by omega]
        · rw [List.getElem?_append_right (by rw [L]; omega), L, g _ _ (by omega), show q / 8 = 3 by omega, show q % 8 = q - 8 - 8 - 8 by omega]
  · rw [List.getElem?_eq_none (by rw [outK_len _ _ (Nat.le_refl _)]; omega), List.getElem?_eq_none (by simp; omega)]
theorem lk_zero : LK (List.replicate 25 0) (toA (fun _ => false)) := ⟨fun x y hx hy => by
  rw [List.getElem?_replicate, if_pos (by omega)]
  exact ⟨by decide, fun z hz => by simp [toA]⟩⟩
/-- the engine's hash is the specification's -/
theorem ks_kec {l : List Nat} (hd : Dig 256 l) : ksN l = kecN l := by
  unfold ksN kecN kecL
  congr 1
  rw [outK_four]
  apply List.map_congr_left
  intro q hq
  have hq : q < 32 := List.mem_range.1 hq
  symm
  have hk := ks_bt (i := 0) hd lan_zero lk_zero rfl
  refine kByte_eq (Nat.mod_lt _ (by decide)) fun k hk8 => ?_
  have h5 := hk.at' (q / 8) 0 (by omega) (by decide)
  rw [show 5 * 0 + q / 8 = q / 8 by omega] at h5
  have ht := (bt_trnN h5).bit (8 * (7 - q % 8) + k) (by omega)
  rw [show (256 : Nat) = 2 ^ 8 by decide, ← Nat.pow_mul, Nat.testBit_mod_two_pow, Nat.testBit_div_two_pow]
  simp only [hk8, decide_true, Bool.true_and]
  rw [Nat.add_comm k, ht]
  unfold toA
  congr 1
  omega
end Go.Proofs.YgvaawGreat
