import Derived.Test.YgvaawGreatS3
import Derived.Test.YgvaawGreatL1
import Derived.Test.YgvaawGreatP10
set_option maxRecDepth 100000
set_option linter.unusedSimpArgs false
set_option linter.unusedVariables false
namespace Go.Proofs.YgvaawGreat
open Go
/-! Records in an array of cells; sorted keys. -/
structure RA {α : Type} (P : Cp α) (k : Nat) (H : Store) (C : Array Value) (xs : List α) : Prop where
  size : C.size = xs.length * k
  pt : ∀ (i : Nat) x, xs[i]? = some x → ∃ c, c.length = k ∧ RowIn C (i * k) c ∧ P H c x
section
variable {α : Type} {P : Cp α} {k : Nat} {H : Store} {C : Array Value} {xs : List α}
theorem RA.mono {H' : Store} (h : RA P k H C xs) (hl : Le H H') (mc : MC P := by first | with_reducible exact mc_addr | with_reducible exact mc_word | with_reducible exact mc_slot | with_reducible exact mc_acct | with_reducible exact mc_mark | with_reducible exact mc_tri | with_reducible exact mc_log | with_reducible exact mc_nat | with_reducible exact mc_access | with_reducible exact mc_sk | with_reducible exact mc_ea | with_reducible exact mc_es | with_reducible exact mc_raw | with_reducible exact mc_oslot | with_reducible exact mc_oacct | with_reducible exact mc_tx | assumption) : RA P k H' C xs :=
  ⟨h.size, fun i x hx => by obtain ⟨c, h1, h2, h3⟩ := h.pt i x hx; exact ⟨c, h1, h2, mc.m _ _ _ _ hl h3⟩⟩
theorem mul_in {i n k : Nat} (h : i < n) : i * k + k ≤ n * k := by
  have := Nat.mul_le_mul_right k (show i + 1 ≤ n by omega)
  rw [Nat.add_mul, Nat.one_mul] at this
  exact this
theorem RA.put {i : Nat} {c : List Value} {y : α} (h : RA P k H C xs) (hi : i < xs.length) (hc : c.length = k) (hp : P H c y) : RA P k H (spl C (0 + i * k) c) (xs.set i y) := by
  have hz := h.size
  have hk := mul_in (k := k) hi
  refine ⟨by rw [size_spl, List.length_set, hz], fun j x hx => ?_⟩
  rw [Nat.zero_add]
  rw [List.getElem?_set] at hx
  by_cases hij : i = j
  · subst hij
    rw [if_pos rfl, if_pos hi] at hx
    cases hx
    exact ⟨c, hc, fun q u hu => get_spl_in (by omega) hu, hp⟩
  · rw [if_neg hij] at hx
    obtain ⟨c', g1, g2, g3⟩ := h.pt j x hx
    refine ⟨c', g1, fun q u hu => ?_, g3⟩
    have hq : q < c'.length := (List.getElem?_eq_some_iff.1 hu).1
    rw [get_spl_out (by omega) ?_]
    · exact g2 q u hu
    · rcases Nat.lt_or_ge j i with hj | hj
      · have := mul_in (k := k) hj
        omega
      · have := mul_in (k := k) (show i < j by omega)
        omega
theorem RA.rows (h : RA P k H C xs) : ∀ m, m ≤ xs.length → ∃ cs : List (List Value), cs.length = m ∧ cs.flatten.length = m * k ∧ RowIn C 0 cs.flatten ∧ ∀ (i : Nat) c x, cs[i]? = some c → xs[i]? = some x → c.length = k ∧ P H c x
  | 0, _ => ⟨[], rfl, by simp, fun i v hv => by simp at hv, fun i c x hc => by simp at hc⟩
  | m + 1, hm => by
    obtain ⟨cs, h1, h2, h3, h4⟩ := RA.rows h m (by omega)
    obtain ⟨c, g1, g2, g3⟩ := h.pt m xs[m] (List.getElem?_eq_getElem (by omega))
    refine ⟨cs ++ [c], by rw [List.length_append, h1]; rfl, by rw [List.flatten_append, List.length_append, h2, List.flatten_singleton, g1, Nat.add_mul, Nat.one_mul], ?_, fun i d x hd hx => ?_⟩
    · rw [List.flatten_append, List.flatten_singleton]
      intro j v hv
      rcases Nat.lt_or_ge j cs.flatten.length with hj | hj
      · rw [List.getElem?_append_left hj] at hv
        exact h3 j v hv
      · rw [List.getElem?_append_right hj] at hv
        have := g2 _ v hv
        rw [show m * k + (j - cs.flatten.length) = 0 + j by omega] at this
        exact this
    · rcases Nat.lt_or_ge i cs.length with hi | hi
      · rw [List.getElem?_append_left hi] at hd
        exact h4 i d x hd hx
      · rw [List.getElem?_append_right hi] at hd
        have h0 : i - cs.length = 0 := by
          rcases Nat.eq_zero_or_pos (i - cs.length) with h0 | h0
          · exact h0
          · rw [List.getElem?_eq_none (by simp; omega)] at hd; cases hd
        rw [h0] at hd
        simp at hd
        subst hd
        have hi2 : i = m := by omega
        rw [hi2, List.getElem?_eq_getElem (by omega)] at hx
        cases hx
        exact ⟨g1, g3⟩
theorem RA.lv {b : Nat} (h : RA P k H C xs) (hb : H b = some C) (hn : xs.length < 9223372036854775808) : LV P k H (.slice (some ⟨b, 0, none⟩) xs.length xs.length) xs := by
  obtain ⟨cs, h1, h2, h3, h4⟩ := h.rows xs.length (Nat.le_refl _)
  exact ⟨cs, ⟨h2, .inr ⟨b, 0, xs.length, C, rfl, Nat.le_refl _, hn, hb, h3⟩⟩, h1, h4⟩
end
theorem made_row {z : Value} {k n i : Nat} (hz : z.cells.size = k) (hi : i < n) : RowIn (madeCells z.cells (n * k)) (i * k) z.cells.toList := fun j v hv => by
  have hj : j < k := by
    have := (List.getElem?_eq_some_iff.1 hv).1
    simpa [hz] using this
  have hk := mul_in (k := k) hi
  unfold madeCells
  rw [Array.getElem?_map, Array.getElem?_range, if_pos (by omega)]
  simp only [Option.map_some]
  rw [hz, Nat.add_comm, Nat.add_mul_mod_self_right, Nat.mod_eq_of_lt hj]
  have : z.cells[j]? = some v := by simpa using hv
  rw [getElem!_def, this]
theorem RA.made {α : Type} {P : Cp α} {k : Nat} {H : Store} {z : Value} {x : α} (n : Nat) (hz : z.cells.size = k) (hP : P H z.cells.toList x) : RA P k H (madeCells z.cells (n * k)) (List.replicate n x) := by
  refine ⟨by rw [size_made, List.length_replicate], fun i y hy => ?_⟩
  have hi := (List.getElem?_eq_some_iff.1 hy).1
  rw [List.length_replicate] at hi
  rw [List.getElem?_replicate, if_pos hi] at hy
  cases hy
  exact ⟨_, by simpa using hz, made_row hz hi, hP⟩
theorem oa_blank (H : Store) : P_oacct H (oaC (noAcct 0) (.slice none 0 0) (.slice none 0 0)) (noAcct 0) := ⟨_, _, rfl, by decide, BV.nil H, LV.nil _ _ _, by decide, by decide⟩
theorem oa_zero : (Value.agg (([(List.replicate 20 (.int .u8 0)), [.int .u64 0], (List.replicate 32 (.int .u8 0)), [.slice none 0 0], [.slice none 0 0]] : List (List Value)).flatten : List Value).toArray).cells.toList = oaC (noAcct 0) (.slice none 0 0) (.slice none 0 0) := rfl
theorem RA.oacct {H : Store} {w : World} {b n : Nat} (k : Blk w b (madeCells (Value.agg (([(List.replicate 20 (.int .u8 0)), [.int .u64 0], (List.replicate 32 (.int .u8 0)), [.slice none 0 0], [.slice none 0 0]] : List (List Value)).flatten : List Value).toArray).cells (n * 55))) : ∃ C, RA P_oacct 55 H C (List.replicate n (noAcct 0)) ∧ Blk w b C :=
  ⟨_, RA.made n rfl (by rw [oa_zero]; exact oa_blank H), k⟩
theorem os_zero : (Value.agg (([(List.replicate 32 (.int .u8 0)), (List.replicate 32 (.int .u8 0))] : List (List Value)).flatten : List Value).toArray).cells.toList = bL (be 32 0) ++ bL (be 32 0) := rfl
theorem RA.oslot {H : Store} {w : World} {b n : Nat} (k : Blk w b (madeCells (Value.agg (([(List.replicate 32 (.int .u8 0)), (List.replicate 32 (.int .u8 0))] : List (List Value)).flatten : List Value).toArray).cells (n * 64))) : ∃ C, RA P_oslot 64 H C (List.replicate n ((0, 0) : Nat × Nat)) ∧ Blk w b C :=
  ⟨_, RA.made n rfl (by rw [os_zero]; exact ⟨rfl, by decide, by decide⟩), k⟩
theorem RA.put1 {α : Type} {P : Cp α} {k : Nat} {H : Store} {C : Array Value} {xs : List α} {i j : Nat} {v : Value} {x y : α} (h : RA P k H C xs) (hi : xs[i]? = some x) (hj : j < k) (hp : ∀ c, c.length = k → P H c x → P H (c.set j v) y) : RA P k H (spl C (0 + i * k + j) [v]) (xs.set i y) := by
  have hil := (List.getElem?_eq_some_iff.1 hi).1
  have hz := h.size
  have hk := mul_in (k := k) hil
  have h1 : ([v] : List Value).length = 1 := rfl
  refine ⟨by rw [size_spl, List.length_set, hz], fun q z hx => ?_⟩
  rw [Nat.zero_add]
  rw [List.getElem?_set] at hx
  by_cases hij : i = q
  · subst hij
    rw [if_pos rfl, if_pos hil] at hx
    cases hx
    obtain ⟨c, g1, g2, g3⟩ := h.pt i x hi
    refine ⟨c.set j v, by rw [List.length_set]; exact g1, fun r u hu => ?_, hp c g1 g3⟩
    rw [List.getElem?_set] at hu
    by_cases e : j = r
    · subst e
      rw [if_pos rfl, if_pos (by omega)] at hu
      have := get_spl_in (cs := C) (o := i * k + j) (vs := [v]) (i := 0) (v := v) (by rw [h1]; omega) rfl
      rw [Nat.add_zero] at this
      rw [this]
      exact hu
    · rw [if_neg e] at hu
      rw [get_spl_out (by rw [h1]; omega) (by rw [h1]; omega)]
      exact g2 r u hu
  · rw [if_neg hij] at hx
    obtain ⟨c', g1, g2, g3⟩ := h.pt q z hx
    refine ⟨c', g1, fun r u hu => ?_, g3⟩
    have hr : r < c'.length := (List.getElem?_eq_some_iff.1 hu).1
    rw [get_spl_out (by rw [h1]; omega) ?_]
    · exact g2 r u hu
    · rw [h1]
      rcases Nat.lt_or_ge q i with hq | hq
      · have := mul_in (k := k) hq
        omega
      · have := mul_in (k := k) (show i < q by omega)
        omega
theorem oaC_set9 {A : YAcct} {vc u v : Value} : (oaC A vc u).set 54 v = oaC A vc v := by
  unfold oaC
  rw [List.set_append_right _ _ (by rw [length_bL, length_be]; decide), length_bL, length_be]
  show _ ++ (_ :: ((bL (be 32 A.bal) ++ [vc, u]).set 33 v)) = _
  rw [List.set_append_right _ _ (by rw [length_bL, length_be]; decide), length_bL, length_be]
  rfl
/-- the storage of one account was laid -/
theorem RA.sto {H : Store} {C : Array Value} {xs : List YAcct} {i : Nat} {A : YAcct} {v : Value} {l : List (Nat × Nat)} (h : RA P_oacct 55 H C xs) (hi : xs[i]? = some A) (hl : LV P_oslot 64 H v l) : RA P_oacct 55 H (spl C (0 + i * 55 + 54) [v]) (xs.set i { A with slots := l }) := by
  refine h.put1 hi (by decide) (fun c _ hP => ?_)
  obtain ⟨vc, vs, e, p1, p2, p3, p4, p5⟩ := hP
  rw [e, oaC_set9]
  exact ⟨vc, v, rfl, p1, p2, hl, p4, p5⟩
theorem RA.lv' {α : Type} {P : Cp α} {k : Nat} {H : Store} {C : Array Value} {xs : List α} {b n : Nat} (h : RA P k H C xs) (hb : H b = some C) (hn : n = xs.length) (hl : n < 9223372036854775808) : LV P k H (.slice (some ⟨b, 0, none⟩) n n) xs := by
  subst hn
  exact h.lv hb hl
/-- ranks in an array -/
structure RK (C : Array Value) (n : Nat) (f : Nat → Nat) : Prop where
  size : C.size = n
  get : ∀ q, q < n → C[q]? = some (.int .i32 (f q : Nat))
theorem RK.at9 {C : Array Value} {n : Nat} {f : Nat → Nat} {q o : Nat} (h : RK C n f) (hq : q < n) (e : o = q) : C[o]? = some (.int .i32 (f q : Nat)) := by
  rw [e]
  exact h.get q hq
theorem RK.made {w : World} {b n : Nat} (k : Blk w b (madeCells (Value.int .i32 0).cells (n * 1))) : ∃ C, RK C n (fun _ => 0) ∧ Blk w b C := by
  refine ⟨_, ⟨by rw [size_made, Nat.mul_one], fun q hq => ?_⟩, k⟩
  have h := made_row (z := Value.int .i32 0) (k := 1) (n := n) (i := q) rfl hq 0 (.int .i32 0) rfl
  rw [Nat.add_zero, show q * 1 = q from Nat.mul_one q] at h
  exact h
theorem RK.put {C : Array Value} {n q o : Nat} {f f' : Nat → Nat} (h : RK C n f) (hq : q < n) (ho : o = q) (hf : ∀ i, f' i = if i = q then f' q else f i) : RK (spl C o [.int .i32 (f' q : Nat)]) n f' := by
  subst ho
  have hz := h.size
  refine ⟨by rw [size_spl, hz], fun i hi => ?_⟩
  by_cases e : i = o
  · subst e
    have := get_spl_in (cs := C) (o := i) (vs := [Value.int .i32 (f' i : Nat)]) (i := 0) (v := .int .i32 (f' i : Nat)) (by show i + 1 ≤ _; omega) rfl
    rw [Nat.add_zero] at this
    exact this
  · rw [get_spl_out (by simp; omega) (by simp; omega), h.get i hi, hf i, if_neg e]
/-- a kept block -/
structure HB (H : Store) (b : Nat) (C : Array Value) : Prop where
  eq : H b = some C
theorem HB.mono {H H' : Store} {b : Nat} {C : Array Value} (h : HB H b C) (hl : Le H H') : HB H' b C := ⟨hl _ _ h.eq⟩
theorem HB.row {H : Store} {b o : Nat} {C : Array Value} {w : World} {l : List Value} (h : HB H b C) (hF : Fz w H) (hr : RowIn C o l) : Row w b o l := (hF.blk _ _ h.eq).row hr
theorem LV.rowH {α : Type} {P : Cp α} {k n : Nat} {H : Store} {a : Option Addr} {c : Nat} {xs : List α} (h : LV P k H (.slice a n c) xs) {i : Nat} (hi : i < xs.length) : ∃ b o C r, a = some ⟨b, o, none⟩ ∧ HB H b C ∧ RowIn C (o + i * k) r ∧ r.length = k ∧ P H r xs[i] := by
  obtain ⟨cs, h1, h2, h3⟩ := h.ex
  rcases h1.at' with ⟨_, e⟩ | ⟨b, o, c', ds, h4, h5, h6, h7, h8⟩
  · omega
  · cases h4
    have hc := List.getElem?_eq_getElem (l := cs) (i := i) (by omega)
    obtain ⟨g1, g2⟩ := h3 i _ _ hc (List.getElem?_eq_getElem hi)
    refine ⟨b, o, ds, cs[i]'(by omega), rfl, ⟨h7⟩, fun j v hv => ?_, g1, g2⟩
    have := flatten_get (k := k) (fun d hd => by
      obtain ⟨q, hq⟩ := List.mem_iff_getElem?.1 hd
      have hql := (List.getElem?_eq_some_iff.1 hq).1
      exact (h3 q d _ hq (List.getElem?_eq_getElem (by omega))).1) hc j v hv
    rw [Nat.add_assoc]
    exact h8 _ v this
theorem esC_val {w : World} {y : ESlot} {b o q : Nat} (h : Row w b o (esC y)) (e : q = o + 5) : Row w b q (wL y.val) := fun i v hv => by
  have hi : i < 4 := (List.getElem?_eq_some_iff.1 hv).1
  rw [e, Nat.add_assoc]
  refine h (5 + i) v ?_
  unfold esC
  rw [show 5 + i = (4 + i) + 1 by omega, List.getElem?_cons_succ, List.append_assoc, List.append_assoc, List.getElem?_append_right (by rw [wL_len]; omega), wL_len, show 4 + i - 4 = i by omega, List.getElem?_append_left (by rw [wL_len]; exact hi)]
  exact hv
theorem esC_key {w : World} {y : ESlot} {b o q : Nat} (h : Row w b o (esC y)) (e : q = o + 1) : Row w b q (wL y.key) := fun i v hv => by
  have hi : i < 4 := (List.getElem?_eq_some_iff.1 hv).1
  rw [e, Nat.add_assoc]
  refine h (1 + i) v ?_
  unfold esC
  rw [show 1 + i = i + 1 by omega, List.getElem?_cons_succ, List.append_assoc, List.append_assoc, List.getElem?_append_left (by rw [wL_len]; exact hi)]
  exact hv
theorem inc32 {a : Nat} (h : a + 1 < 2147483648) : IntKind.i32.wrap ((a : Int) + 1) = ((a + 1 : Nat) : Int) := by
  rw [wrap_i32 (by omega) (by omega)]
  omega
theorem dec32 {a : Nat} (h : a < 2147483648) (h0 : 0 < a) : IntKind.i32.wrap ((a : Int) - 1) = ((a - 1 : Nat) : Int) := by
  rw [wrap_i32 (by omega) (by omega)]
  omega
theorem oaC_set54 {A : YAcct} {vc u : Value} : RowIn (oaC A vc u).toArray 54 [u] := fun i v hv => by
  have hi : i < 1 := (List.getElem?_eq_some_iff.1 hv).1
  have : i = 0 := by omega
  subst this
  cases hv
  exact oaC_sto
/-! Sorted keys. -/
def P_sk : Cp SK := fun _ c x => c = skC x ∧ SKOk x
theorem mono_sk : Mono P_sk := fun _ _ _ _ _ h => h
theorem mc_sk : MC P_sk := ⟨mono_sk⟩
structure SRT (base B : Nat) (w : World) (v : Value) (L : List SK) : Prop where
  ok : ∀ x ∈ L, SKOk x
  ex : (v = .slice none 0 0 ∧ L = []) ∨ ∃ b cf C, v = .slice (some ⟨b, 0, none⟩) L.length cf ∧ L.length ≤ cf ∧ cf < 9223372036854775808 ∧ base ≤ b ∧ b < B ∧ Blk w b C ∧ RowIn C 0 (kcs L)
theorem SRT.lim {base B : Nat} {w : World} {v : Value} {L : List SK} (h : SRT base B w v L) : ∀ q, v.ownBlock = some q → base ≤ q ∧ q < B := by
  intro q hq
  rcases h.ex with ⟨h1, _⟩ | ⟨b, cf, C, h1, _, _, h2, h3, _⟩
  · rw [h1] at hq; cases hq
  · rw [h1] at hq; cases hq; exact ⟨h2, h3⟩
theorem SRT.ne {base B : Nat} {w : World} {v : Value} {L : List SK} {b : Nat} (h : SRT base B w v L) (hb : b < base ∨ B ≤ b) : ¬ some b = v.ownBlock := fun hq => by have := h.lim b hq.symm; omega
theorem SRT.sl {base B : Nat} {w : World} {v : Value} {L : List SK} (h : SRT base B w v L) : ∃ a c, v = .slice a L.length c := by
  rcases h.ex with ⟨h1, h2⟩ | ⟨b, cf, C, h1, _⟩
  · exact ⟨none, 0, by rw [h1, h2]; rfl⟩
  · exact ⟨_, _, h1⟩
theorem lv_sk {H : Store} {b cf : Nat} {C : Array Value} {L : List SK} (hb : H b = some C) (hr : RowIn C 0 (kcs L)) (h1 : L.length ≤ cf) (h2 : cf < 9223372036854775808) (hk : ∀ x ∈ L, SKOk x) : LV P_sk 6 H (.slice (some ⟨b, 0, none⟩) L.length cf) L := by
  refine ⟨L.map skC, ⟨by show (kcs L).length = _; rw [kcs_len, Nat.mul_comm], .inr ⟨b, 0, cf, C, rfl, h1, h2, hb, hr⟩⟩, List.length_map .., fun i c x hc hx => ?_⟩
  rw [List.getElem?_map, hx] at hc
  cases hc
  exact ⟨rfl, rfl, hk x (List.mem_of_getElem? hx)⟩
theorem SRT.keep' {base B : Nat} {w : World} {v : Value} {L : List SK} {M : Nat → Prop} {w0 : World} {H H0 H' : Store} (h : SRT base B w v L) (hP : Mono P_sk) (g : Go M w0 H0 w H') (hH : Le H H') (hb : w0.heap.size ≤ base) : ∃ H2, Go M w0 H0 w H2 ∧ Le H' H2 ∧ LV P_sk 6 H2 v L ∧ ∀ q, H2.has q → H'.has q ∨ some q = v.ownBlock := by
  rcases h.ex with ⟨h1, h2⟩ | ⟨b, cf, C, h1, h2, h3, h4, h5, h6, h7⟩
  · exact ⟨H', g, Le.refl _, by rw [h1, h2]; exact LV.nil _ _ _, fun q hq => .inl hq⟩
  · obtain ⟨H2, g2, l2, e2, hn2⟩ := g.hold' h6 (by omega)
    exact ⟨H2, g2, l2, by rw [h1]; exact lv_sk e2 h7 h2 h3 h.ok, fun q hq => orI (hn2 q hq) id (fun e => by rw [h1, e]; rfl)⟩
theorem gl_kcs {H : Store} {base e B : Nat} {w : World} {v : Value} {L : List SK} (h : GL P_sk H base e 6 B w v L) : (∀ x ∈ L, SKOk x) ∧ ((v = .slice none 0 0 ∧ L = []) ∨ ∃ b cap C, v = .slice (some ⟨b, 0, none⟩) L.length cap ∧ L.length ≤ cap ∧ cap ≤ maxLen ∧ base ≤ b ∧ b < B ∧ Blk w b C ∧ 6 * L.length ≤ C.size ∧ RowIn C 0 (kcs L)) := by
  obtain ⟨cs, h1, h2, h3⟩ := h.ex
  have hcs : cs = L.map skC := by
    refine List.ext_getElem? (fun i => ?_)
    rw [List.getElem?_map]
    cases hc : cs[i]? with
    | none =>
      rw [List.getElem?_eq_none_iff] at hc
      rw [List.getElem?_eq_none (by omega)]
      rfl
    | some c =>
      have hi := (List.getElem?_eq_some_iff.1 hc).1
      have hx := List.getElem?_eq_getElem (l := L) (i := i) (by omega)
      rw [hx]
      have := (h3 i c _ hc hx).2.1
      rw [this]
      rfl
  refine ⟨fun x hx => ?_, ?_⟩
  · obtain ⟨i, hi⟩ := List.mem_iff_getElem?.1 hx
    have hc := List.getElem?_eq_getElem (l := cs) (i := i) (by rw [h2]; exact (List.getElem?_eq_some_iff.1 hi).1)
    exact (h3 i _ x hc hi).2.2
  · obtain ⟨g1, g2⟩ := h1.own
    rcases g2 with ⟨e1, e2⟩ | ⟨q, cap, cur, e1, e3, e4, e5, e6, e7, e8⟩
    · exact .inl ⟨e1, List.length_eq_zero_iff.1 (by omega)⟩
    · have hl := h1.lim q (by rw [e1]; rfl)
      rw [hcs, List.length_map] at e8 e5
      have hk : ((L.map skC).flatten).length = L.length * 6 := by
        have := kcs_len L
        unfold kcs at this
        omega
      refine .inr ⟨q, cap, cur, by rw [e1, hcs, List.length_map], e5, e6, hl.1, hl.2, ⟨e, e4⟩, ?_, ?_⟩
      · have := Nat.mul_le_mul_right 6 e5
        omega
      · intro i v hv
        have hi : i < (kcs L).length := (List.getElem?_eq_some_iff.1 hv).1
        unfold kcs at hv
        rw [← e8, List.getElem?_take] at hv
        rw [Nat.zero_add]
        split at hv
        · simpa using hv
        · cases hv
theorem v_sortedG {H : Store} {base B : Nat} {w : World} {v0 : Value} {L0 : List SK} (hO : GL P_sk H base 170 6 B w v0 L0) (hln : L0.length < 100000) (hB : base ≤ w.heap.size) (hnil : L0 = [] → v0 = .slice none 0 0) :
    Ret 75 [v0] w (fun v w' => ∃ L, L.Perm L0 ∧ SrtK L ∧ SRT base w'.heap.size w' v L ∧ Ch (fun b => some b = v0.ownBlock) w w') := by
  obtain ⟨hok, h⟩ := gl_kcs hO
  rcases h with ⟨e1, e2⟩ | ⟨b, cap, C, e1, e2, e3, e4, e5, e6, e7, e8⟩
  · subst e1
    subst e2
    exact v_sorted0.mono (fun v w' ⟨h1, h2⟩ => ⟨[], List.Perm.refl _, .nil, ⟨hok, .inl ⟨h1, rfl⟩⟩, h2.mono (fun _ _ h => h.elim)⟩)
  · by_cases hn : L0 = []
    · have := hnil hn
      rw [e1] at this
      cases this
    · subst e1
      refine (v_sorted e6 e8 hok e7 e2 (List.length_pos_iff.2 hn) hln).mono (fun v w' ⟨L, bf, cf, Cf, h1, h2, h3, h4, h5, h6, h7, h8, h9⟩ => ⟨L, h2, h3, ⟨fun x hx => hok x (h2.mem_iff.1 hx), .inr ⟨bf, cf, Cf, by rw [h1, h2.length_eq], by rw [h2.length_eq]; exact h6, ?_, ?_, h4.lt, h4, h5⟩⟩, ?_⟩)
      · have : cap ≤ 9223372036854775807 := by simpa [maxLen] using e3
        omega
      · rcases h8 with h8 | h8
        · omega
        · omega
      · refine h9.mono (fun q hq hm => ?_)
        rcases hm with hm | hm
        · rw [hm]; rfl
        · omega
end Go.Proofs.YgvaawGreat
