import Derived.Test.YgvaawGreatN9
set_option maxRecDepth 100000
set_option linter.unusedSimpArgs false
set_option linter.unusedVariables false
namespace Go.Proofs.YgvaawGreat
open Go
/-! The contracts of nat over a store of kept blocks. -/
theorem Blk.same {w : World} {b : Nat} {cs ds : Array Value} (h : Blk w b cs) (k : Blk w b ds) : cs = ds := by
  obtain ⟨T, h⟩ := h
  obtain ⟨T', k⟩ := k
  rw [h] at k
  cases k; rfl
/-- a fresh block is kept, if it is not yet -/
theorem Go.hold {M : Nat → Prop} {w w' : World} {H H' : Store} (g : Go M w H w' H') {b : Nat} {cs : Array Value} (hb : Blk w' b cs) (hf : w.heap.size ≤ b) : ∃ H2, Go M w H w' H2 ∧ Le H' H2 ∧ H2 b = some cs := by
  by_cases hn : H'.has b
  · obtain ⟨ds, hd⟩ := hn
    have := (g.fz.blk b ds hd).same hb
    subst this
    exact ⟨H', g, Le.refl _, hd⟩
  · refine ⟨_, g.keep hb hf hn, ?_, Store.add_get _ _ _⟩
    intro q ds hq
    unfold Store.add
    rw [if_neg (fun e => hn ⟨ds, by rw [← e]; exact hq⟩)]; exact hq
theorem FB.kp {M : Nat → Prop} {w w' : World} {H H' : Store} {v : Value} {l : List Nat} (h : FB w w' v l) (g : Go M w H w' H') : ∃ H2, Go M w H w' H2 ∧ Le H' H2 ∧ BV H2 v l := by
  rcases h.at' with ⟨h1, h2⟩ | ⟨b, c, r, h1, h2, h3, h4, h5⟩
  · subst h1 h2
    exact ⟨H', g, Le.refl _, BV.nil _⟩
  · obtain ⟨H2, g2, l2, e2⟩ := g.hold h5 h4
    refine ⟨H2, g2, l2, ?_, h.dig⟩
    rw [h1]
    refine SV.of (by simp [bL]) h2 h3 e2 ?_
    rw [bL_append]
    exact RowIn.app _ _
theorem FB.nv {M : Nat → Prop} {w w' : World} {H H' : Store} {v : Value} {l : List Nat} {x : Nat} (h : FB w w' v l) (g : Go M w H w' H') (ht : Tr l) (hv : val 256 l = x) : ∃ H2, Go M w H w' H2 ∧ Le H' H2 ∧ NV H2 v x := by
  obtain ⟨H2, g2, l2, b2⟩ := h.kp g
  exact ⟨H2, g2, l2, ⟨l, b2, hv, ht⟩⟩
/-- small enough for every list here -/
def Sm (x : Nat) : Prop := x < 256 ^ 200
theorem sm_of {x N : Nat} (h : x < N) (hN : N ≤ 256 ^ 200) : Sm x := Nat.lt_of_lt_of_le h hN
theorem sm64 {x : Nat} (h : x < 18446744073709551616) : Sm x := sm_of h (by decide)
theorem smW {x : Nat} (h : x < W256) : Sm x := sm_of h (by decide)
theorem sm128 {x : Nat} (h : x < 256 ^ 128) : Sm x := sm_of h (by decide)
theorem NV.len {H : Store} {v : Value} {x : Nat} (h : NV H v x) (hs : Sm x) : ∃ l a c, v = .slice a l.length c ∧ BV H v l ∧ val 256 l = x ∧ Tr l ∧ l.length ≤ 200 ∧ l.length ≤ c ∧ c < 9223372036854775808 := by
  obtain ⟨l, h1, h2, h3⟩ := h.ex
  obtain ⟨a, c, h4, h5, h6, _⟩ := h1.sv.val
  exact ⟨l, a, c, h4, h1, h2, h3, tr_len h3 (by rw [h2]; exact hs), h5, h6⟩
section
variable {w : World} {H : Store} {v1 v2 : Value} {x y : Nat}
theorem nat_add (hF : Fz w H) (h1 : NV H v1 x) (h2 : NV H v2 y) (hx : Sm x) (hy : Sm y) : Ret 34 [v1, v2] w (fun v w' => ∃ H', Go No w H w' H' ∧ NV H' v (x + y)) := by
  obtain ⟨l, a, c, e, b, rfl, t, n, hc, h63⟩ := h1.len hx
  obtain ⟨l', a', c', e', b', rfl, t', n', hc', h63'⟩ := h2.len hy
  subst e e'
  refine (add_raw _ _ _ l w (b.wv hF) (Nat.le_refl _) hc (by omega) _ _ _ l' (b'.wv hF) (Nat.le_refl _) hc' (by omega)).mono ?_
  rintro v w' ⟨l2, u, fb, hv, ht⟩
  obtain ⟨H2, g2, _, n2⟩ := fb.nv (Go.ofUp hF u) ht hv
  exact ⟨H2, g2, n2⟩
theorem nat_mul (hF : Fz w H) (h1 : NV H v1 x) (h2 : NV H v2 y) (hx : Sm x) (hy : Sm y) : Ret 50 [v1, v2] w (fun v w' => ∃ H', Go No w H w' H' ∧ NV H' v (x * y)) := by
  obtain ⟨l, a, c, e, b, rfl, t, n, hc, h63⟩ := h1.len hx
  obtain ⟨l', a', c', e', b', rfl, t', n', hc', h63'⟩ := h2.len hy
  subst e e'
  refine (mul_raw _ _ _ l w (b.wv hF) (Nat.le_refl _) hc (by omega) _ _ _ l' (b'.wv hF) (Nat.le_refl _) hc' (by omega)).mono ?_
  rintro v w' ⟨l2, u, fb, hv, ht⟩
  obtain ⟨H2, g2, _, n2⟩ := fb.nv (Go.ofUp hF u) ht hv
  exact ⟨H2, g2, n2⟩
theorem nat_cmp (hF : Fz w H) (h1 : NV H v1 x) (h2 : NV H v2 y) (hx : Sm x) (hy : Sm y) : Ret 121 [v1, v2] w (fun v w' => v = .int .i8 (cmpN x y) ∧ Up w w') := by
  obtain ⟨l, a, c, e, b, rfl, t, n, hc, h63⟩ := h1.len hx
  obtain ⟨l', a', c', e', b', rfl, t', n', hc', h63'⟩ := h2.len hy
  subst e e'
  exact cmp_raw _ _ _ l w (b.wv hF) (Nat.le_refl _) hc (by omega) _ _ _ l' (b'.wv hF) (Nat.le_refl _) hc' (by omega)
theorem nat_sub (hF : Fz w H) (h1 : NV H v1 x) (h2 : NV H v2 y) (hx : Sm x) (hy : Sm y) : Ret 125 [v1, v2] w (fun v w' => ∃ u H', v = .tuple #[u, .bool (decide (y ≤ x))] ∧ Go No w H w' H' ∧ NV H' u (x - y)) := by
  obtain ⟨l, a, c, e, b, rfl, t, n, hc, h63⟩ := h1.len hx
  obtain ⟨l', a', c', e', b', rfl, t', n', hc', h63'⟩ := h2.len hy
  subst e e'
  refine (sub_raw _ _ _ l w (b.wv hF) (Nat.le_refl _) hc (by omega) _ _ _ l' (b'.wv hF) (Nat.le_refl _) hc' (by omega)).mono ?_
  rintro v w' ⟨u, t, rfl, up, h⟩
  rcases h with ⟨rfl, rfl, h⟩ | ⟨rfl, h, l2, fb, hv, ht⟩
  · refine ⟨.slice none 0 0, H, ?_, Go.ofUp hF up, ?_⟩
    · rw [decide_eq_false (by omega)]
    · rw [Nat.sub_eq_zero_of_le (by omega)]; exact NV.nil H
  · obtain ⟨H2, g2, _, n2⟩ := fb.nv (Go.ofUp hF up) ht hv
    exact ⟨_, H2, by rw [decide_eq_true h], g2, n2⟩
theorem nat_divmod (hF : Fz w H) (h1 : NV H v1 x) (h2 : NV H v2 y) (hx : Sm x) (hy : Sm y) : Ret 155 [v1, v2] w (fun v w' => ∃ q r H', v = .tuple #[q, r, .bool (decide (0 < y))] ∧ Go No w H w' H' ∧ NV H' q (x / y) ∧ NV H' r (if y = 0 then 0 else x % y)) := by
  obtain ⟨l, a, c, e, b, rfl, t, n, hc, h63⟩ := h1.len hx
  obtain ⟨l', a', c', e', b', rfl, t', n', hc', h63'⟩ := h2.len hy
  subst e e'
  refine (divmod_raw _ _ _ l w (b.wv hF) (Nat.le_refl _) hc (by omega) _ _ _ l' (b'.wv hF) (Nat.le_refl _) hc' (by omega)).mono ?_
  rintro v w' ⟨q, r, t, rfl, up, h⟩
  rcases h with ⟨rfl, rfl, rfl, h⟩ | ⟨rfl, h, lq, lr, fq, fr, hq, hr, tq, tr⟩
  · rw [h, Nat.div_zero, if_pos rfl]
    exact ⟨_, _, H, by simp, Go.ofUp hF up, NV.nil H, NV.nil H⟩
  · obtain ⟨H2, g2, _, n2⟩ := fq.nv (Go.ofUp hF up) tq hq
    obtain ⟨H3, g3, l3, n3⟩ := fr.nv g2 tr hr
    exact ⟨q, r, H3, by rw [decide_eq_true h], g3, n2.mono l3, by rw [if_neg (by omega)]; exact n3⟩
def lo64 (x : Nat) : Nat := if x < 18446744073709551616 then x else 0
theorem nat_u64 (hF : Fz w H) (h1 : NV H v1 x) (hx : Sm x) : Ret 80 [v1] w (fun v w' => v = .tuple #[.int .u64 (lo64 x : Nat), .bool (decide (x < 18446744073709551616))] ∧ Up w w') := by
  obtain ⟨l, a, c, e, b, rfl, t, n, hc, h63⟩ := h1.len hx
  subst e
  refine (u64_raw _ _ _ l w (b.wv hF) (Nat.le_refl _) hc (by omega)).mono ?_
  rintro v w' ⟨x, t, rfl, u, h⟩
  have e8 : (256 : Nat) ^ 8 = 18446744073709551616 := rfl
  rw [e8] at h
  rcases h with ⟨rfl, rfl, h⟩ | ⟨rfl, rfl, h⟩
  · exact ⟨by rw [lo64, if_pos h, decide_eq_true h], u⟩
  · exact ⟨by rw [lo64, if_neg (by omega), decide_eq_false (by omega)], u⟩
theorem nat_be32 (hF : Fz w H) (h1 : NV H v1 x) (hx : x < W256) : Ret 81 [v1] w (fun v w' => v = .tuple #[hV x, .bool true] ∧ Up w w') := by
  obtain ⟨l, a, c, e, b, rfl, t, n, hc, h63⟩ := h1.len (smW hx)
  subst e
  exact be32_raw _ _ _ l w (b.wv hF) (Nat.le_refl _) hc (by omega) hx
theorem nat_bit (hF : Fz w H) (h1 : NV H v1 x) (hx : Sm x) (i : Nat) (hi : i < 65536) : Ret 330 [v1, .int .u16 i] w (fun v w' => v = .bool (decide (x / 2 ^ i % 2 = 1)) ∧ Up w w') := by
  obtain ⟨l, a, c, e, b, rfl, t, n, hc, h63⟩ := h1.len hx
  subst e
  exact bit_raw i hi _ _ _ l w (b.wv hF) (Nat.le_refl _) hc (by omega)
theorem nat_pow2 (hF : Fz w H) (k : Nat) (hk : k < 65536) : Ret 396 [.int .u16 k] w (fun v w' => ∃ H', Go No w H w' H' ∧ NV H' v (2 ^ k)) := by
  refine (pow2_raw k w hk).mono ?_
  rintro v w' ⟨l2, u, ob, hv, ht⟩
  obtain ⟨H2, g2, _, n2⟩ := ob.fb.nv (Go.ofUp hF u) ht hv
  exact ⟨H2, g2, n2⟩
theorem nat_fromU64 (hF : Fz w H) (hx : x < 18446744073709551616) : Ret 87 [.int .u64 x] w (fun v w' => ∃ H', Go No w H w' H' ∧ NV H' v x) := by
  refine (fromU64_raw x w hx).mono ?_
  rintro v w' ⟨l2, u, fb, hv, ht⟩
  obtain ⟨H2, g2, _, n2⟩ := fb.nv (Go.ofUp hF u) ht hv
  exact ⟨H2, g2, n2⟩
/-- bytes that lie anywhere -/
theorem nat_fromBE {s0 : Nat} {l : List Nat} (hF : Fz w H) (hW : WV s0 w v1 l) (hs : s0 ≤ w.heap.size) (hl : l.length ≤ 281474976710656) : Ret 33 [v1] w (fun v w' => ∃ H', Go No w H w' H' ∧ NV H' v (ofBE l)) := by
  obtain ⟨a, c, rfl, hc, h63⟩ := hW.val
  refine (fromBE_raw _ _ _ l w hW hs hc hl).mono ?_
  rintro v w' ⟨l2, u, ob, hv, ht⟩
  obtain ⟨H2, g2, _, n2⟩ := ob.fb.nv (Go.ofUp hF u) ht hv
  exact ⟨H2, g2, n2⟩
theorem nat_norm {s0 : Nat} {l : List Nat} (hF : Fz w H) (hW : WV s0 w v1 l) (hs : s0 ≤ w.heap.size) (hl : l.length ≤ 281474976710656) : Ret 123 [v1] w (fun v w' => ∃ H', Go No w H w' H' ∧ NV H' v (val 256 l)) := by
  obtain ⟨a, c, rfl, hc, h63⟩ := hW.val
  refine (norm_spec _ _ _ l w hW hs hc hl).mono ?_
  rintro v w' ⟨l2, u, ob, hv, ht⟩
  obtain ⟨H2, g2, _, n2⟩ := ob.fb.nv (Go.ofUp hF u) ht hv
  exact ⟨H2, g2, n2⟩
theorem nat_normN (hF : Fz w H) (h1 : NV H v1 x) (hx : Sm x) : Ret 123 [v1] w (fun v w' => ∃ H', Go No w H w' H' ∧ NV H' v x) := by
  obtain ⟨l, a, c, e, b, rfl, t, n, hc, h63⟩ := h1.len hx
  exact nat_norm hF (b.wv hF) (Nat.le_refl _) (by omega)
end
end Go.Proofs.YgvaawGreat
