import Derived.Test.YgvaawGreatE1
import Derived.Test.YgvaawGreatGc
import Derived.Test.YgvaawGreatYO
set_option maxRecDepth 100000
set_option linter.unusedSimpArgs false
set_option linter.unusedVariables false
namespace Go.Proofs.YgvaawGreat
open Go
/-! The engine's vault in the world. -/
structure EAcct where
  addr : Nat
  nonce : Nat
  bal : Nat
  code : List Nat
  warm : Bool
  made : Bool
  gone : Bool
structure ESlot where
  acct : Nat
  key : Nat
  val : Nat
  orig : Nat
  warm : Bool
structure ETemp where
  acct : Nat
  key : Nat
  val : Nat
structure EEnt where
  kind : Nat
  pl : Nat
  n : Nat
  w : Nat
  b : List Nat
  flag : Bool
structure EV where
  accts : List EAcct
  slots : List ESlot
  journal : List EEnt
  marks : List Nat
  ref : Nat
  logs : List YLog
  temps : List ETemp
  atb : Nat → Int
  stb : Nat → Int
  tm : Bool
  ttb : Nat → Int
structure EAcct.Ok (a : EAcct) : Prop where
  addr : a.addr < A160
  nonce : a.nonce < 18446744073709551616
  bal : a.bal < W256
  code : a.code.length ≤ 512
structure ESlot.Ok (x : ESlot) : Prop where
  acct : x.acct < 2560
  key : x.key < W256
  val : x.val < W256
  orig : x.orig < W256
structure ETemp.Ok (x : ETemp) : Prop where
  acct : x.acct < 2560
  key : x.key < W256
  val : x.val < W256
structure EEnt.Ok (e : EEnt) : Prop where
  kind : e.kind < 11
  pl : e.pl < 12288
  n : e.n < 18446744073709551616
  w : e.w < W256
  b : e.b.length ≤ 512
def eaC (a : EAcct) (vc : Value) : List Value := bL (be 20 a.addr) ++ (.int .u64 (a.nonce : Nat) :: (wL a.bal ++ [vc, .bool a.warm, .bool a.made, .bool a.gone]))
def esC (x : ESlot) : List Value := .int .i32 (x.acct : Nat) :: (wL x.key ++ wL x.val ++ wL x.orig ++ [.bool x.warm])
def etC (x : ETemp) : List Value := .int .i32 (x.acct : Nat) :: (wL x.key ++ wL x.val)
def eeC (e : EEnt) (vb : Value) : List Value := [.int .u8 (e.kind : Nat), .int .i32 (e.pl : Nat), .int .u64 (e.n : Nat)] ++ wL e.w ++ [vb, .bool e.flag]
theorem wL_len (n : Nat) : (wL n).length = 4 := rfl
theorem eaC_len (a : EAcct) (vc : Value) : (eaC a vc).length = 29 := by
  unfold eaC
  rw [List.length_append, length_bL, length_be]
  rfl
theorem esC_len (x : ESlot) : (esC x).length = 14 := rfl
theorem etC_len (x : ETemp) : (etC x).length = 9 := rfl
theorem eeC_len (e : EEnt) (vb : Value) : (eeC e vb).length = 9 := rfl
def P_ea : Cp EAcct := fun H c a => ∃ vc, c = eaC a vc ∧ BV H vc a.code ∧ a.Ok
def P_es : Cp ESlot := fun _ c x => c = esC x ∧ x.Ok
def P_et : Cp ETemp := fun _ c x => c = etC x ∧ x.Ok
def P_ee : Cp EEnt := fun H c e => ∃ vb, c = eeC e vb ∧ BV H vb e.b ∧ e.Ok
theorem mono_ea : Mono P_ea := fun _ _ _ _ hl ⟨vc, h1, h2, h3⟩ => ⟨vc, h1, h2.mono hl, h3⟩
theorem mono_es : Mono P_es := fun _ _ _ _ _ h => h
theorem mono_et : Mono P_et := fun _ _ _ _ _ h => h
theorem mono_ee : Mono P_ee := fun _ _ _ _ hl ⟨vc, h1, h2, h3⟩ => ⟨vc, h1, h2.mono hl, h3⟩
theorem mono_lg : Mono P_log := fun _ _ _ _ hl ⟨vt, vd, h1, h2, h3, h4⟩ => ⟨vt, vd, h1, h2, h3.mono' mono_word hl, h4.mono hl⟩
/-- records in a block that may grow in place -/
structure AR {α : Type} (P : Cp α) (w : World) (H : Store) (k : Nat) (v : Value) (bg : Nat) (cur : Array Value) (xs : List α) : Prop where
  gb : GB w k v bg cur xs.length
  pt : ∀ (i : Nat) x, xs[i]? = some x → ∃ c, c.length = k ∧ RowIn cur (i * k) c ∧ P H c x
theorem AR.ch {α : Type} {P : Cp α} {M : Nat → Prop} {w w' : World} {H : Store} {k : Nat} {v : Value} {bg : Nat} {cur : Array Value} {xs : List α} (h : AR P w H k v bg cur xs) (c : Ch M w w') (hM : v.ownBlock = some bg → ¬ M bg) : AR P w' H k v bg cur xs := ⟨h.gb.ch c hM, h.pt⟩
theorem AR.mono {α : Type} {P : Cp α} {w : World} {H H' : Store} {k : Nat} {v : Value} {bg : Nat} {cur : Array Value} {xs : List α} (h : AR P w H k v bg cur xs) (hP : Mono P) (hl : Le H H') : AR P w H' k v bg cur xs :=
  ⟨h.gb, fun i x hx => by obtain ⟨c, h1, h2, h3⟩ := h.pt i x hx; exact ⟨c, h1, h2, hP _ _ _ _ hl h3⟩⟩
theorem AR.nil {α : Type} (P : Cp α) (w : World) (H : Store) (k bg : Nat) (cur : Array Value) : AR P w H k (.slice none 0 0) bg cur [] := ⟨GB.nil _ _ _ _, fun i x hx => by simp at hx⟩
theorem AR.len {α : Type} {P : Cp α} {w : World} {H : Store} {k : Nat} {v : Value} {bg : Nat} {cur : Array Value} {xs : List α} (h : AR P w H k v bg cur xs) : ∃ a c, v = .slice a xs.length c := h.gb.sl
theorem AR.get {α : Type} {P : Cp α} {w : World} {H : Store} {k : Nat} {v : Value} {bg : Nat} {cur : Array Value} {xs : List α} {i : Nat} {x : α} (h : AR P w H k v bg cur xs) (hx : xs[i]? = some x) : ∃ cap c, v = .slice (some ⟨bg, 0, none⟩) xs.length cap ∧ xs.length ≤ cap ∧ cap ≤ maxLen ∧ cap * k ≤ cur.size ∧ Blk w bg cur ∧ c.length = k ∧ RowIn cur (i * k) c ∧ P H c x := by
  have hi : i < xs.length := (List.getElem?_eq_some_iff.1 hx).1
  obtain ⟨cap, h1, h2, h3, h4, h5⟩ := h.gb.pos (by omega)
  obtain ⟨c, h6, h7, h8⟩ := h.pt i x hx
  exact ⟨cap, c, h1, h2, h3, h4, h5, h6, h7, h8⟩
theorem AR.put {α : Type} {P : Cp α} {w w' : World} {H : Store} {k : Nat} {v : Value} {bg : Nat} {cur cur' : Array Value} {xs : List α} {i : Nat} {y : α} {c : List Value} (h : AR P w H k v bg cur xs) (hi : i < xs.length) (ho : Out cur cur' (i * k) k) (hc : c.length = k) (hr : RowIn cur' (i * k) c) (hp : P H c y) (hb : Blk w' bg cur') : AR P w' H k v bg cur' (xs.set i y) := by
  obtain ⟨cap, h1, h2, h3, h4, h5⟩ := h.gb.pos (by omega)
  refine ⟨⟨.inr ⟨cap, by rw [List.length_set]; exact h1, by rw [List.length_set]; exact h2, h3, by rw [ho.size]; exact h4, hb⟩⟩, fun j x hx => ?_⟩
  rw [List.getElem?_set] at hx
  by_cases hij : i = j
  · subst hij
    rw [if_pos rfl, if_pos hi] at hx
    cases hx
    exact ⟨c, hc, hr, hp⟩
  · rw [if_neg hij] at hx
    obtain ⟨c', g1, g2, g3⟩ := h.pt j x hx
    refine ⟨c', g1, fun q u hu => ?_, g3⟩
    have hq : q < c'.length := (List.getElem?_eq_some_iff.1 hu).1
    rw [ho.get (j * k + q) ?_]
    · exact g2 q u hu
    · rcases Nat.lt_or_ge j i with hj | hj
      · have := Nat.mul_le_mul_right k (show j + 1 ≤ i by omega)
        rw [Nat.add_mul, Nat.one_mul] at this
        exact .inl (by omega)
      · have := Nat.mul_le_mul_right k (show i + 1 ≤ j by omega)
        rw [Nat.add_mul, Nat.one_mul] at this
        exact .inr (by omega)
theorem AR.app {α : Type} {P : Cp α} {w w' : World} {H : Store} {k : Nat} {v v' : Value} {bg bg' : Nat} {cur cur' : Array Value} {xs : List α} {y : α} {c : List Value} (h : AR P w H k v bg cur xs) (hg : GB w' k v' bg' cur' (xs.length + 1)) (hpre : Pre cur cur' (xs.length * k)) (hr : RowIn cur' (xs.length * k) c) (hc : c.length = k) (hp : P H c y) : AR P w' H k v' bg' cur' (xs ++ [y]) := by
  refine ⟨by rw [List.length_append]; exact hg, fun i x hx => ?_⟩
  by_cases hi : i < xs.length
  · rw [List.getElem?_append_left hi] at hx
    obtain ⟨c', g1, g2, g3⟩ := h.pt i x hx
    refine ⟨c', g1, hpre.row g2 ?_, g3⟩
    have := Nat.mul_le_mul_right k (show i + 1 ≤ xs.length by omega)
    rw [Nat.add_mul, Nat.one_mul] at this
    omega
  · have h0 : i = xs.length := by
      have := (List.getElem?_eq_some_iff.1 hx).1
      simp at this
      omega
    subst h0
    simp at hx
    subst hx
    exact ⟨c, hc, hr, hp⟩
theorem AR.cut {α : Type} {P : Cp α} {w : World} {H : Store} {k m : Nat} {bg cap : Nat} {cur : Array Value} {xs : List α} (h : AR P w H k (.slice (some ⟨bg, 0, none⟩) xs.length cap) bg cur xs) (hm : m ≤ xs.length) : AR P w H k (.slice (some ⟨bg, 0, none⟩) m cap) bg cur (xs.take m) := by
  refine ⟨?_, fun i x hx => ?_⟩
  · rw [List.length_take, Nat.min_eq_left hm]
    rcases h.gb.at' with ⟨h1, _⟩ | ⟨cap', h1, h2, h3, h4, h5⟩
    · cases h1
    · cases h1
      exact ⟨.inr ⟨cap, rfl, by omega, h3, h4, h5⟩⟩
  · rw [List.getElem?_take] at hx
    split at hx
    · exact h.pt i x hx
    · cases hx
/-! Probing tables. -/
structure Tab (N : Nat) (T : Nat → Int) (n : Nat) (hm : Nat → Nat) : Prop where
  rng : ∀ p, p < N → T p = -1 ∨ (0 ≤ T p ∧ T p < n)
  cov : ∀ i, i < n → ∃ d, d < N ∧ T ((hm i + d) % N) = i ∧ ∀ e, e < d → 0 ≤ T ((hm i + e) % N)
  inj : ∀ p q, p < N → q < N → T p = T q → 0 ≤ T p → p = q
theorem pig : ∀ (n N : Nat) (f : Nat → Nat), (∀ p, p < N → f p < n) → (∀ p q, p < N → q < N → f p = f q → p = q) → N ≤ n
  | 0, N, f, h, _ => by
    rcases Nat.eq_zero_or_pos N with h0 | h0
    · omega
    · exact absurd (h 0 h0) (by omega)
  | n + 1, 0, _, _, _ => Nat.zero_le _
  | n + 1, M + 1, f, h, hi => by
    have := pig n M (fun p => if f p = n then f M else f p) (fun p hp => by
      show (if f p = n then f M else f p) < n
      have h1 := h p (by omega)
      have h2 := h M (by omega)
      by_cases e : f p = n
      · rw [if_pos e]
        have : f M ≠ n := fun e2 => by have := hi p M (by omega) (by omega) (by omega); omega
        omega
      · rw [if_neg e]; omega) (fun p q hp hq e => by
      have e : (if f p = n then f M else f p) = (if f q = n then f M else f q) := e
      by_cases e1 : f p = n
      · by_cases e2 : f q = n
        · exact hi p q (by omega) (by omega) (by omega)
        · rw [if_pos e1, if_neg e2] at e
          have := hi M q (by omega) (by omega) e
          omega
      · by_cases e2 : f q = n
        · rw [if_neg e1, if_pos e2] at e
          have := hi p M (by omega) (by omega) e
          omega
        · rw [if_neg e1, if_neg e2] at e
          exact hi p q (by omega) (by omega) e)
    omega
theorem Tab.full {N : Nat} {T : Nat → Int} {n h0 : Nat} {hm : Nat → Nat} (h : Tab N T n hm) (hn : n < N) : ¬ ∀ e, e < N → 0 ≤ T ((h0 + e) % N) := by
  intro ha
  have hp : ∀ p, p < N → 0 ≤ T p := fun p hp => by
    have h0N : h0 % N < N := Nat.mod_lt _ (by omega)
    have := ha ((p + N - h0 % N) % N) (Nat.mod_lt _ (by omega))
    have e : (h0 + (p + N - h0 % N) % N) % N = p := by
      rw [Nat.add_mod, Nat.mod_mod, ← Nat.add_mod, Nat.add_mod h0]
      by_cases hlt : p < h0 % N
      · rw [Nat.mod_eq_of_lt (show p + N - h0 % N < N by omega), show h0 % N + (p + N - h0 % N) = p + N by omega, Nat.add_mod_right, Nat.mod_eq_of_lt hp]
      · rw [show p + N - h0 % N = (p - h0 % N) + N by omega, Nat.add_mod_right, Nat.mod_eq_of_lt (show p - h0 % N < N by omega), show h0 % N + (p - h0 % N) = p by omega, Nat.mod_eq_of_lt hp]
    rw [e] at this
    exact this
  have := pig n N (fun p => (T p).toNat) (fun p hp' => by
    have h1 := h.rng p hp'
    have h2 := hp p hp'
    show (T p).toNat < n
    omega) (fun p q hp' hq' e => by
    have e : (T p).toNat = (T q).toNat := e
    have h1 := hp p hp'
    have h2 := hp q hq'
    exact h.inj p q hp' hq' (by omega) h1)
  omega
/-- what was passed on the way -/
def Pb (N : Nat) (T : Nat → Int) (m : Nat → Prop) (h0 t : Nat) : Prop := ∀ e, e < t → 0 ≤ T ((h0 + e) % N) ∧ ¬ m (T ((h0 + e) % N)).toNat
theorem Tab.none {N : Nat} {T : Nat → Int} {n h0 t : Nat} {hm : Nat → Nat} {m : Nat → Prop} (h : Tab N T n hm) (hk : ∀ i, i < n → m i → hm i = h0) (hp : Pb N T m h0 t) (ht : T ((h0 + t) % N) < 0) : ∀ i, i < n → ¬ m i := by
  intro i hi hmi
  obtain ⟨d, hd, h1, h2⟩ := h.cov i hi
  rw [hk i hi hmi] at h1 h2
  rcases Nat.lt_trichotomy d t with hlt | heq | hgt
  · have := (hp d hlt).2
    rw [h1] at this
    exact this (by simpa using hmi)
  · subst heq
    omega
  · have := h2 t hgt
    omega
structure Free (N : Nat) (T : Nat → Int) (h0 p : Nat) : Prop where
  lt : p < N
  neg : T p = -1
  way : ∃ d, d < N ∧ p = (h0 + d) % N ∧ ∀ e, e < d → 0 ≤ T ((h0 + e) % N)
def updT (T : Nat → Int) (p : Nat) (i : Int) : Nat → Int := fun q => if q = p then i else T q
theorem Tab.add {N : Nat} {T : Nat → Int} {n p : Nat} {hm hm' : Nat → Nat} (h : Tab N T n hm) (hf : Free N T (hm' n) p) (he : ∀ i, i < n → hm' i = hm i) : Tab N (updT T p n) (n + 1) hm' := by
  obtain ⟨hp, hn, d0, hd0, hpd, hw⟩ := hf
  refine ⟨fun q hq => ?_, fun i hi => ?_, fun q r hq hr e hge => ?_⟩
  · unfold updT
    by_cases e : q = p
    · rw [if_pos e]; exact .inr ⟨by omega, by omega⟩
    · rw [if_neg e]
      rcases h.rng q hq with h1 | h1
      · exact .inl h1
      · exact .inr ⟨h1.1, by omega⟩
  · by_cases hin : i = n
    · subst hin
      refine ⟨d0, hd0, by unfold updT; rw [if_pos hpd.symm], fun e he' => ?_⟩
      unfold updT
      by_cases e1 : (hm' i + e) % N = p
      · rw [if_pos e1]; omega
      · rw [if_neg e1]; exact hw e he'
    · obtain ⟨d, hd, h1, h2⟩ := h.cov i (by omega)
      rw [← he i (by omega)] at h1 h2
      refine ⟨d, hd, ?_, fun e he' => ?_⟩
      · unfold updT
        rw [if_neg]
        · exact h1
        · intro e1
          rw [e1, hn] at h1
          omega
      · unfold updT
        by_cases e1 : (hm' i + e) % N = p
        · rw [if_pos e1]; omega
        · rw [if_neg e1]; exact h2 e he'
  · unfold updT at e hge
    by_cases e1 : q = p
    · by_cases e2 : r = p
      · omega
      · rw [if_pos e1, if_neg e2] at e
        rcases h.rng r hr with h1 | h1 <;> omega
    · by_cases e2 : r = p
      · rw [if_neg e1, if_pos e2] at e
        rcases h.rng q hq with h1 | h1 <;> omega
      · rw [if_neg e1, if_neg e2] at e
        rw [if_neg e1] at hge
        exact h.inj q r hq hr e hge
theorem Tab.congr {N : Nat} {T : Nat → Int} {n : Nat} {hm hm' : Nat → Nat} (h : Tab N T n hm) (he : ∀ i, i < n → hm' i = hm i) : Tab N T n hm' := ⟨h.rng, fun i hi => by rw [he i hi]; exact h.cov i hi, h.inj⟩
def hmA (l : List EAcct) (i : Nat) : Nat := match l[i]? with | some x => aHome x.addr | none => 0
def hmS (l : List ESlot) (i : Nat) : Nat := match l[i]? with | some x => sHome x.acct x.key | none => 0
def hmT (l : List ETemp) (i : Nat) : Nat := match l[i]? with | some x => tHome x.acct x.key | none => 0
structure VBd (V : EV) : Prop where
  accts : V.accts.length ≤ 2560
  slots : V.slots.length ≤ 2560
  journal : V.journal.length ≤ 65536
  marks : V.marks.length ≤ 16384
  mkb : ∀ m ∈ V.marks, m ≤ 65536
  ref : V.ref < 18446744073709551616
  logs : V.logs.length ≤ 2800
  temps : V.temps.length ≤ 12288
/-- a journal entry names a place -/
structure EIn (V : EV) (e : EEnt) : Prop where
  a : e.kind = 0 ∨ e.kind = 1 ∨ e.kind = 2 ∨ e.kind = 4 ∨ e.kind = 9 ∨ e.kind = 10 → e.pl < V.accts.length
  s : e.kind = 3 ∨ e.kind = 5 → e.pl < V.slots.length
  t : e.kind = 8 → e.pl < V.temps.length
structure VOk (V : EV) : Prop where
  bd : VBd V
  a : Tab 4096 V.atb V.accts.length (hmA V.accts)
  ad : ∀ (i j : Nat) x y, V.accts[i]? = some x → V.accts[j]? = some y → x.addr = y.addr → i = j
  s : Tab 4096 V.stb V.slots.length (hmS V.slots)
  sd : ∀ (i j : Nat) x y, V.slots[i]? = some x → V.slots[j]? = some y → x.acct = y.acct → x.key = y.key → i = j
  t : V.tm = true → Tab 16384 V.ttb V.temps.length (hmT V.temps)
  t0 : V.tm = false → V.temps = []
  td : ∀ (i j : Nat) x y, V.temps[i]? = some x → V.temps[j]? = some y → x.acct = y.acct → x.key = y.key → i = j
  sa : ∀ x ∈ V.slots, x.acct < V.accts.length
  ta : ∀ x ∈ V.temps, x.acct < V.accts.length
  jr : ∀ e ∈ V.journal, EIn V e
  jl : (V.journal.filter (fun e => e.kind == 7)).length ≤ V.logs.length
/-- the vault in the world; col tells whose a block is: 0 nobody's, 1 the chain's, 2..7 the vault's -/
structure VL (w : World) (H : Store) (col : Nat → Nat) (bc : Nat) (cs : Array Value) (V : EV) : Prop where
  fz : Fz w H
  kC : Blk w bc cs
  size : cs.size = 27024
  colC : col bc = 1
  new : ∀ b, w.heap.size ≤ b → col b = 0
  kept : ∀ b, H.has b → col b = 0
  acc : ∃ v b c, cs[2435]? = some v ∧ AR P_ea w H 29 v b c V.accts ∧ (v.ownBlock = some b → col b = 2)
  slo : ∃ v b c, cs[2436]? = some v ∧ AR P_es w H 14 v b c V.slots ∧ (v.ownBlock = some b → col b = 3)
  jou : ∃ v b c, cs[10629]? = some v ∧ AR P_ee w H 9 v b c V.journal ∧ (v.ownBlock = some b → col b = 4)
  log : ∃ v b c, cs[27016]? = some v ∧ AR P_log w H 22 v b c V.logs ∧ (v.ownBlock = some b → col b = 5)
  tem : ∃ v b c, cs[27017]? = some v ∧ AR P_et w H 9 v b c V.temps ∧ (v.ownBlock = some b → col b = 6)
  ttb : ∃ v b c, cs[27018]? = some v ∧ (V.tm = false → v = .slice none 0 0) ∧ (V.tm = true → v = .slice (some ⟨b, 0, none⟩) 16384 16384 ∧ Blk w b c ∧ c.size = 16384 ∧ (∀ p, p < 16384 → c[p]? = some (.int .i32 (V.ttb p))) ∧ col b = 7)
  atb : ∀ p, p < 4096 → cs[2437 + p]? = some (.int .i32 (V.atb p))
  stb : ∀ p, p < 4096 → cs[6533 + p]? = some (.int .i32 (V.stb p))
  mrk : ∀ (i : Nat) m, V.marks[i]? = some m → cs[10630 + i]? = some (.int .i32 (m : Nat))
  nmk : cs[27014]? = some (.int .i32 (V.marks.length : Nat))
  ref : cs[27015]? = some (.int .u64 (V.ref : Nat))
  tb : cs[27023]? = some (.bool false)
theorem VL.go {M : Nat → Prop} {w w' : World} {H H' : Store} {col : Nat → Nat} {bc : Nat} {cs : Array Value} {V : EV} (h : VL w H col bc cs V) (g : Go M w H w' H') (hM : ∀ b, M b → col b = 0) : VL w' H' col bc cs V := by
  obtain ⟨v1, b1, c1, p1, p2, p3⟩ := h.acc
  obtain ⟨v2, b2, c2, q1, q2, q3⟩ := h.slo
  obtain ⟨v3, b3, c3, r1, r2, r3⟩ := h.jou
  obtain ⟨v4, b4, c4, s1, s2, s3⟩ := h.log
  obtain ⟨v5, b5, c5, t1, t2, t3⟩ := h.tem
  obtain ⟨v6, b6, c6, u1, u2, u3⟩ := h.ttb
  have cl := h.colC
  refine ⟨g.fz, h.kC.ch g.ch (fun hm => by have := hM _ hm; omega), h.size, h.colC, fun b hb => h.new b (Nat.le_trans g.ch.size hb), fun b hb => ?_, ⟨v1, b1, c1, p1, (p2.ch g.ch (fun e hm => by have := hM _ hm; have := p3 e; omega)).mono mono_ea g.le, p3⟩, ⟨v2, b2, c2, q1, (q2.ch g.ch (fun e hm => by have := hM _ hm; have := q3 e; omega)).mono mono_es g.le, q3⟩, ⟨v3, b3, c3, r1, (r2.ch g.ch (fun e hm => by have := hM _ hm; have := r3 e; omega)).mono mono_ee g.le, r3⟩, ⟨v4, b4, c4, s1, (s2.ch g.ch (fun e hm => by have := hM _ hm; have := s3 e; omega)).mono mono_lg g.le, s3⟩, ⟨v5, b5, c5, t1, (t2.ch g.ch (fun e hm => by have := hM _ hm; have := t3 e; omega)).mono mono_et g.le, t3⟩, ⟨v6, b6, c6, u1, u2, fun e => ?_⟩, h.atb, h.stb, h.mrk, h.nmk, h.ref, h.tb⟩
  · rcases g.new b hb with hb | hb
    · exact h.kept b hb
    · exact h.new b hb
  · obtain ⟨x1, x2, x3, x4, x5⟩ := u3 e
    exact ⟨x1, x2.ch g.ch (fun hm => by have := hM _ hm; omega), x3, x4, x5⟩
theorem VL.up {w w' : World} {H : Store} {col : Nat → Nat} {bc : Nat} {cs : Array Value} {V : EV} (h : VL w H col bc cs V) (u : Up w w') : VL w' H col bc cs V := h.go (Go.ofUp h.fz u) (fun _ h => h.elim)
end Go.Proofs.YgvaawGreat
