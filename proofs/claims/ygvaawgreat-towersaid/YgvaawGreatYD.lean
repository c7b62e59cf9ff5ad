import Derived.Test.YgvaawGreatEqs
import Derived.Test.YgvaawGreatY5
set_option maxRecDepth 100000
set_option linter.unusedSimpArgs false
set_option linter.unusedVariables false
namespace Go.Proofs.YgvaawGreat
open Go
/-! What yp keeps: lists of records in kept blocks. -/
abbrev Cp (α : Type) := Store → List Value → α → Prop
structure LV {α : Type} (P : Cp α) (k : Nat) (H : Store) (v : Value) (xs : List α) : Prop where
  ex : ∃ cs : List (List Value), SV H k xs.length v cs.flatten ∧ cs.length = xs.length ∧ ∀ (i : Nat) c x, cs[i]? = some c → xs[i]? = some x → c.length = k ∧ P H c x
def Mono {α : Type} (P : Cp α) : Prop := ∀ H H' c x, Le H H' → P H c x → P H' c x
theorem LV.mono' {α : Type} {P : Cp α} {k : Nat} {H H' : Store} {v : Value} {xs : List α} (hP : Mono P) (h : LV P k H v xs) (hl : Le H H') : LV P k H' v xs := by
  obtain ⟨cs, h1, h2, h3⟩ := h.ex
  exact ⟨cs, h1.mono hl, h2, fun i c x hc hx => ⟨(h3 i c x hc hx).1, hP _ _ _ _ hl (h3 i c x hc hx).2⟩⟩
theorem LV.nil {α : Type} (P : Cp α) (k : Nat) (H : Store) : LV P k H (.slice none 0 0) [] := ⟨[], SV.nil H k, rfl, fun i c x hc => by simp at hc⟩
theorem flatten_get {k : Nat} : ∀ {cs : List (List Value)} {i : Nat} {c : List Value}, (∀ c ∈ cs, c.length = k) → cs[i]? = some c → ∀ j v, c[j]? = some v → cs.flatten[i * k + j]? = some v
  | [], i, c, _, h => by simp at h
  | d :: cs, 0, c, hk, h => by
    simp only [List.getElem?_cons_zero, Option.some.injEq] at h
    subst h
    intro j v hv
    have : j < d.length := (List.getElem?_eq_some_iff.1 hv).1
    rw [List.flatten_cons, Nat.zero_mul, Nat.zero_add, List.getElem?_append_left this]; exact hv
  | d :: cs, i + 1, c, hk, h => by
    intro j v hv
    have hd := hk d (List.mem_cons_self ..)
    rw [List.flatten_cons, List.getElem?_append_right (by rw [hd, Nat.add_mul]; omega), hd]
    rw [show (i + 1) * k + j - k = i * k + j by rw [Nat.add_mul]; omega]
    exact flatten_get (fun c hc => hk c (List.mem_cons_of_mem _ hc)) (by simpa using h) j v hv
theorem LV.val {α : Type} {P : Cp α} {k : Nat} {H : Store} {v : Value} {xs : List α} (h : LV P k H v xs) : ∃ a c, v = .slice a xs.length c ∧ xs.length ≤ c ∧ c < 9223372036854775808 := by
  obtain ⟨cs, h1, h2, h3⟩ := h.ex
  obtain ⟨a, c, h4, h5, h6, _⟩ := h1.val
  exact ⟨a, c, h4, h5, h6⟩
/-- the record at a place -/
theorem LV.row {α : Type} {P : Cp α} {k n : Nat} {H : Store} {a : Option Addr} {c : Nat} {xs : List α} {w : World} (h : LV P k H (.slice a n c) xs) (hw : Fz w H) {i : Nat} (hi : i < xs.length) : ∃ b o r, a = some ⟨b, o, none⟩ ∧ Row w b (o + i * k) r ∧ r.length = k ∧ P H r xs[i] := by
  obtain ⟨cs, h1, h2, h3⟩ := h.ex
  rcases h1.at' with ⟨_, e⟩ | ⟨b, o, c', ds, h4, h5, h6, h7, h8⟩
  · omega
  · cases h4
    have hci : i < cs.length := by omega
    have hk : ∀ c ∈ cs, c.length = k := fun q hq => by
      obtain ⟨j, hj, e⟩ := List.getElem_of_mem hq
      exact (h3 j q xs[j] (by rw [List.getElem?_eq_getElem hj, e]) (List.getElem?_eq_getElem (by omega))).1
    have hg := h3 i cs[i] xs[i] (List.getElem?_eq_getElem hci) (List.getElem?_eq_getElem hi)
    refine ⟨b, o, cs[i], rfl, ?_, hg.1, hg.2⟩
    intro j v hv
    have h9 := flatten_get hk (List.getElem?_eq_getElem hci) j v hv
    rw [Nat.add_assoc]
    exact ((hw.blk b ds h7).row h8) (i * k + j) v h9
/-! The records. -/
def P_addr : Cp Nat := fun _ c a => c = bL (be 20 a) ∧ a < A160
def P_word : Cp Nat := fun _ c x => c = bL (be 32 x) ∧ x < W256
def P_slot : Cp (Nat × Nat) := fun H c x => ∃ vk vv, c = [vk, vv] ∧ NV H vk x.1 ∧ NV H vv x.2 ∧ x.1 < W256 ∧ x.2 < W256
structure YAcct where
  addr : Nat
  nonce : Nat
  bal : Nat
  code : List Nat
  slots : List (Nat × Nat)
def P_acct : Cp YAcct := fun H c A => ∃ vn vb vc vs, c = bL (be 20 A.addr) ++ [vn, vb, vc, vs] ∧ A.addr < A160 ∧ NV H vn A.nonce ∧ NV H vb A.bal ∧ BV H vc A.code ∧ LV P_slot 2 H vs A.slots ∧ A.nonce < 18446744073709551616 ∧ A.bal < W256 ∧ A.code.length < 4294967296
def P_mark : Cp (Nat × Nat) := fun H c x => ∃ vk, c = bL (be 20 x.1) ++ [vk] ∧ NV H vk x.2 ∧ x.1 < A160 ∧ x.2 < W256
def P_tri : Cp (Nat × Nat × Nat) := fun H c x => ∃ vk vv, c = bL (be 20 x.1) ++ [vk, vv] ∧ NV H vk x.2.1 ∧ NV H vv x.2.2 ∧ x.1 < A160 ∧ x.2.1 < W256 ∧ x.2.2 < W256
structure YLog where
  addr : Nat
  topics : List Nat
  data : List Nat
def P_log : Cp YLog := fun H c l => ∃ vt vd, c = bL (be 20 l.addr) ++ [vt, vd] ∧ l.addr < A160 ∧ LV P_word 32 H vt l.topics ∧ BV H vd l.data
theorem mono_addr : Mono P_addr := fun _ _ _ _ _ h => h
theorem mono_word : Mono P_word := fun _ _ _ _ _ h => h
theorem mono_slot : Mono P_slot := fun _ _ _ _ hl ⟨vk, vv, h1, h2, h3, h4⟩ => ⟨vk, vv, h1, h2.mono hl, h3.mono hl, h4⟩
theorem mono_acct : Mono P_acct := fun _ _ _ _ hl ⟨vn, vb, vc, vs, h1, h2, h3, h4, h5, h6, h7⟩ => ⟨vn, vb, vc, vs, h1, h2, h3.mono hl, h4.mono hl, h5.mono hl, h6.mono' mono_slot hl, h7⟩
theorem mono_mark : Mono P_mark := fun _ _ _ _ hl ⟨vk, h1, h2, h3⟩ => ⟨vk, h1, h2.mono hl, h3⟩
theorem mono_tri : Mono P_tri := fun _ _ _ _ hl ⟨vk, vv, h1, h2, h3, h4⟩ => ⟨vk, vv, h1, h2.mono hl, h3.mono hl, h4⟩
theorem mono_log : Mono P_log := fun _ _ _ _ hl ⟨vt, vd, h1, h2, h3, h4⟩ => ⟨vt, vd, h1, h2, h3.mono' mono_word hl, h4.mono hl⟩
/-- the world that a frame goes back to -/
structure YWorld where
  accts : List YAcct
  warmA : List Nat
  warmS : List (Nat × Nat)
  refund : Nat
  logs : List YLog
  temps : List (Nat × Nat × Nat)
  made : List Nat
  gone : List Nat
structure P_world (H : Store) (c : List Value) (W : YWorld) : Prop where
  ex : ∃ va vwa vws vr vl vt vm vg, c = [va, vwa, vws, vr, vl, vt, vm, vg] ∧ LV P_acct 24 H va W.accts ∧ LV P_addr 20 H vwa W.warmA ∧ LV P_mark 21 H vws W.warmS ∧ NV H vr W.refund ∧ W.refund < 18446744073709551616 ∧ LV P_log 22 H vl W.logs ∧ LV P_tri 22 H vt W.temps ∧ LV P_addr 20 H vm W.made ∧ LV P_addr 20 H vg W.gone ∧ ∃ a n, vl = .slice a n n
theorem mono_world : Mono P_world := fun _ _ _ _ hl h => by
  obtain ⟨va, vwa, vws, vr, vl, vt, vm, vg, h1, h2, h3, h4, h5, h6, h7, h8, h9, h10, h11⟩ := h.ex
  exact ⟨va, vwa, vws, vr, vl, vt, vm, vg, h1, h2.mono' mono_acct hl, h3.mono' mono_addr hl, h4.mono' mono_mark hl, h5.mono hl, h6, h7.mono' mono_log hl, h8.mono' mono_tri hl, h9.mono' mono_addr hl, h10.mono' mono_addr hl, h11⟩
/-! What is read. -/
def noAcct (a : Nat) : YAcct := ⟨a, 0, 0, [], []⟩
def acctAt (l : List YAcct) (a : Nat) : YAcct := (l.find? (fun x => x.addr == a)).getD (noAcct a)
theorem find_found {α : Type} {p : α → Bool} {l : List α} {i : Nat} (hi : i < l.length) (hn : ∀ j, (hj : j < i) → p (l[j]'(by omega)) = false) (hp : p l[i] = true) : l.find? p = some l[i] := by
  induction l generalizing i with
  | nil => simp at hi
  | cons x l ih =>
    cases i with
    | zero => simp at hp; simp [hp]
    | succ i =>
      have h0 := hn 0 (by omega)
      simp at h0
      rw [List.find?_cons, h0]
      exact ih (by simpa using hi) (fun j hj => by have := hn (j + 1) (by omega); simpa using this) (by simpa using hp)
theorem find_none {α : Type} {p : α → Bool} {l : List α} (hn : ∀ j, (hj : j < l.length) → p l[j] = false) : l.find? p = none := by
  rw [List.find?_eq_none]
  intro x hx
  obtain ⟨j, hj, rfl⟩ := List.getElem_of_mem hx
  rw [hn j hj]; decide
theorem acctAt_found {l : List YAcct} {a i : Nat} (hi : i < l.length) (hn : ∀ j, (hj : j < i) → (l[j]'(by omega)).addr ≠ a) (he : l[i].addr = a) : acctAt l a = l[i] := by
  unfold acctAt
  rw [find_found hi (fun j hj => by simpa using hn j hj) (by simpa using he)]; rfl
theorem acctAt_none {l : List YAcct} {a : Nat} (hn : ∀ j, (hj : j < l.length) → l[j].addr ≠ a) : acctAt l a = noAcct a := by
  unfold acctAt
  rw [find_none (fun j hj => by simpa using hn j hj)]; rfl
theorem noAcct_cells {H : Store} {a : Nat} (ha : a < A160) : P_acct H (bL (be 20 a) ++ [.slice none 0 0, .slice none 0 0, .slice none 0 0, .slice none 0 0]) (noAcct a) :=
  ⟨_, _, _, _, rfl, ha, NV.nil H, NV.nil H, BV.nil H, LV.nil _ _ H, (show 0 < 18446744073709551616 by decide), (show 0 < W256 by decide), (show 0 < 4294967296 by decide)⟩
end Go.Proofs.YgvaawGreat
