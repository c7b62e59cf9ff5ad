import Derived.Test.YgvaawGreatY9
set_option maxRecDepth 100000
set_option linter.unusedSimpArgs false
set_option linter.unusedVariables false
namespace Go.Proofs.YgvaawGreat
open Go
/-! A list of records that is being built. -/
structure GL {α : Type} (P : Cp α) (H : Store) (base e k B : Nat) (w : World) (v : Value) (O : List α) : Prop where
  ex : ∃ cs, Gr base e k B w v cs ∧ cs.length = O.length ∧ ∀ (i : Nat) c x, cs[i]? = some c → O[i]? = some x → c.length = k ∧ P H c x
section
variable {α : Type} {P : Cp α} {H : Store} {base e k B : Nat} {w w' : World} {v : Value} {O : List α}
theorem GL.nil : GL P H base e k B w (.slice none 0 0) ([] : List α) := ⟨[], Gr.nil _ _ _ _ _, rfl, fun i c x hc => by simp at hc⟩
theorem GL.ch {M : Nat → Prop} (h : GL P H base e k B w v O) (c : Ch M w w') (hM : ∀ b, M b → b < base ∨ B ≤ b) : GL P H base e k B w' v O := by
  obtain ⟨cs, h1, h2⟩ := h.ex
  exact ⟨cs, h1.ch c hM, h2⟩
theorem GL.up (h : GL P H base e k B w v O) (c : Up w w') : GL P H base e k B w' v O := h.ch c (fun _ h => h.elim)
theorem GL.wr {b : Nat} {ds : Array Value} (h : GL P H base e k B w v O) (x : Wr w w' b ds) (hb : b < base ∨ B ≤ b) : GL P H base e k B w' v O := h.ch x.ch (fun q hq => by rw [hq]; exact hb)
theorem GL.lim (h : GL P H base e k B w v O) : ∀ q, v.ownBlock = some q → base ≤ q ∧ q < B := by
  obtain ⟨cs, h1, h2⟩ := h.ex
  exact h1.lim
theorem GL.ne {b : Nat} (h : GL P H base e k B w v O) (hb : b < base ∨ B ≤ b) : ¬ some b = v.ownBlock := fun hq => by have := h.lim b hq.symm; omega
theorem GL.one1 (h : GL P H base e k B w v O) : v.one1 = true := by
  obtain ⟨cs, h1, h2⟩ := h.ex
  rcases h1.own.2 with ⟨e1, _⟩ | ⟨g, cap, cur, e1, _⟩ <;> rw [e1] <;> rfl
theorem GL.keep {M : Nat → Prop} {w0 : World} {H0 H' : Store} (h : GL P H base e k B w v O) (hP : Mono P) (g : Go M w0 H0 w H') (hH : Le H H') (hb : w0.heap.size ≤ base) : ∃ H2, Go M w0 H0 w H2 ∧ Le H' H2 ∧ LV P k H2 v O := by
  obtain ⟨cs, h1, h2, h3⟩ := h.ex
  obtain ⟨H2, g2, l2, sv⟩ := h1.keep g hb
  refine ⟨H2, g2, l2, ⟨cs, by rw [← h2]; exact sv, h2, fun i c x hc hx => ?_⟩⟩
  have := h3 i c x hc hx
  exact ⟨this.1, hP _ _ _ _ (hH.trans l2) this.2⟩
end
theorem cells_one {v : Value} (h : v.one1 = true) : v.cells = [v].toArray := by cases v <;> first | rfl | exact absurd h Bool.false_ne_true
section
variable {n : Nat} {s : Nat → Value} {w : World} {d : Option Nat} {ty : TypeId} {pos : String} {af : Array Edge} {g : Option (Nat × Bool)}
theorem e_appL {α : Type} {P : Cp α} {H : Store} {x y : Operand} {T e k q base B by_ : Nat} {z v : Value} {O : List α} {c : List Value} {u : α} (hU : Hvaa.prog.underlying T = some (.slice e)) (hs : Sz e k) (hz : Zr e z) (hq : By e q) (hzs : z.cells.size = k) (hk : 0 < k)
    (hx : ev n s x = v) (hO : GL P H base e k B w v O) (hy : ev n s y = .slice (some ⟨by_, 0, none⟩) 1 1) (hc : c.length = k) (hr : Blk w by_ c.toArray) (h1 : ∀ u ∈ c, u.one1 = true) (hP : P H c u) (hq2 : q ≤ 4096) (hn : O.length ≤ 4294967296) (hbase : base ≤ w.heap.size) :
    Eff n s w ⟨d, .call { callee := .builtin .append, args := #[x, y], argTypes := #[T, T] }, ty, pos, af, g⟩ (fun v' w' => GL P H base e k w'.heap.size w' v' (O ++ [u]) ∧ Ch (fun b => some b = v.ownBlock) w w' ∧ ∀ b, b < w.heap.size → ¬ some b = v.ownBlock → ¬ some b = v'.ownBlock) := by
  obtain ⟨cs, g1, g2, g3⟩ := hO.ex
  have h := e_app (d := d) (ty := ty) (pos := pos) (af := af) (g := g) hU hs hz hq hzs hk hx g1 hy hc hr h1 hq2 (by omega) hbase
  refine ⟨fun K Q hK => h.out K Q fun v' w' hv => hK v' w' ?_⟩
  obtain ⟨k1, k2, k3⟩ := hv
  refine ⟨⟨cs ++ [c], k1, by simp [g2], fun i c' x' hc' hx' => ?_⟩, k2, k3⟩
  rcases Nat.lt_or_ge i cs.length with hi | hi
  · rw [List.getElem?_append_left hi] at hc'
    rw [List.getElem?_append_left (by omega)] at hx'
    exact g3 i c' x' hc' hx'
  · rw [List.getElem?_append_right hi] at hc'
    rw [List.getElem?_append_right (by omega)] at hx'
    have hi0 : i - cs.length = 0 := by
      rcases Nat.eq_zero_or_pos (i - cs.length) with h | h
      · exact h
      · rw [List.getElem?_eq_none (by simp; omega)] at hc'; cases hc'
    rw [hi0] at hc'
    rw [show i - O.length = 0 by omega] at hx'
    simp at hc' hx'
    subst hc' hx'
    exact ⟨hc, hP⟩
end
/-! Lists in order: a record is put in, the one at its place goes. -/
def putP {α : Type} (same lt : α → Bool) : Option α → List α → List α
  | x, [] => x.toList
  | none, y :: l => if same y then putP same lt none l else y :: putP same lt none l
  | some n, y :: l => if same y || lt y then n :: (if same y then putP same lt none l else y :: putP same lt none l) else y :: putP same lt (some n) l
theorem put_lay {α : Type} {same lt : α → Bool} {O D R : List α} {y n : α} (h : O ++ putP same lt (some n) (y :: D) = R) (hc : (same y || lt y) = true) : (O ++ [n]) ++ putP same lt none (y :: D) = R := by
  rw [putP, if_pos hc] at h
  rw [← h, putP]
  simp
theorem put_same {α : Type} {same lt : α → Bool} {O D R : List α} {y : α} (h : O ++ putP same lt none (y :: D) = R) (hc : same y = true) : O ++ putP same lt none D = R := by
  rw [putP, if_pos hc] at h; exact h
theorem put_keep {α : Type} {same lt : α → Bool} {O D R : List α} {y : α} (h : O ++ putP same lt none (y :: D) = R) (hc : same y = false) : (O ++ [y]) ++ putP same lt none D = R := by
  rw [putP, if_neg (by simp [hc])] at h; simpa using h
theorem put_pass {α : Type} {same lt : α → Bool} {O D R : List α} {y n : α} (h : O ++ putP same lt (some n) (y :: D) = R) (hc : (same y || lt y) = false) : (O ++ [y]) ++ putP same lt (some n) D = R := by
  rw [putP, if_neg (by simp [hc])] at h; simpa using h
end Go.Proofs.YgvaawGreat
