import Derived.Test.YgvaawGreatD1
set_option linter.unusedSimpArgs false
set_option linter.unusedVariables false
namespace Go.Proofs.YgvaawGreat
open Go
/-! Digits to a base, the least first. -/
def val (β : Nat) : List Nat → Nat
  | [] => 0
  | d :: l => d + β * val β l
/-- all digits are below the base -/
def Dig (β : Nat) (l : List Nat) : Prop := ∀ d ∈ l, d < β
theorem val_nil (β : Nat) : val β [] = 0 := rfl
theorem val_cons (β d : Nat) (l : List Nat) : val β (d :: l) = d + β * val β l := rfl
theorem val_append (β : Nat) (l m : List Nat) : val β (l ++ m) = val β l + β ^ l.length * val β m := by
  induction l with
  | nil => simp [val]
  | cons d l ih => simp only [List.cons_append, val_cons, ih, List.length_cons, Nat.pow_succ]; grind
theorem val_snoc (β : Nat) (l : List Nat) (d : Nat) : val β (l ++ [d]) = val β l + β ^ l.length * d := by
  rw [val_append]; simp [val]
theorem Dig.nil (β : Nat) : Dig β [] := fun d hd => by cases hd
theorem Dig.cons {β d : Nat} {l : List Nat} (hd : d < β) (h : Dig β l) : Dig β (d :: l) := by
  intro x hx
  rcases List.mem_cons.1 hx with rfl | hx
  · exact hd
  · exact h x hx
theorem Dig.head {β d : Nat} {l : List Nat} (h : Dig β (d :: l)) : d < β := h d (List.mem_cons_self ..)
theorem Dig.tail {β d : Nat} {l : List Nat} (h : Dig β (d :: l)) : Dig β l := fun x hx => h x (List.mem_cons_of_mem _ hx)
theorem Dig.app {β : Nat} {l m : List Nat} (h : Dig β l) (k : Dig β m) : Dig β (l ++ m) := by
  intro x hx
  rcases List.mem_append.1 hx with hx | hx
  · exact h x hx
  · exact k x hx
theorem Dig.left {β : Nat} {l m : List Nat} (h : Dig β (l ++ m)) : Dig β l := fun x hx => h x (List.mem_append_left _ hx)
theorem Dig.right {β : Nat} {l m : List Nat} (h : Dig β (l ++ m)) : Dig β m := fun x hx => h x (List.mem_append_right _ hx)
theorem Dig.one {β d : Nat} (h : d < β) : Dig β [d] := Dig.cons h (Dig.nil β)
theorem Dig.take {β : Nat} {l : List Nat} (h : Dig β l) (k : Nat) : Dig β (l.take k) := fun x hx => h x (List.mem_of_mem_take hx)
theorem Dig.drop {β : Nat} {l : List Nat} (h : Dig β l) (k : Nat) : Dig β (l.drop k) := fun x hx => h x (List.mem_of_mem_drop hx)
theorem Dig.rep (β n : Nat) (h : 0 < β) : Dig β (List.replicate n 0) := fun x hx => by rw [(List.mem_replicate.1 hx).2]; exact h
theorem val_lt {β : Nat} {l : List Nat} (h : Dig β l) : val β l < β ^ l.length := by
  induction l with
  | nil => simp [val]
  | cons d l ih =>
    have h1 := ih h.tail
    have h2 := h.head
    rw [val_cons, List.length_cons, Nat.pow_succ, Nat.mul_comm (β ^ l.length)]
    have h3 : β * (val β l + 1) ≤ β * β ^ l.length := Nat.mul_le_mul_left _ h1
    rw [Nat.mul_add, Nat.mul_one] at h3
    omega
theorem val_rep (β n : Nat) : val β (List.replicate n 0) = 0 := by
  induction n with
  | zero => rfl
  | succ n ih => rw [List.replicate_succ, val_cons, ih]; simp
/-- cut at a place -/
theorem val_take_drop (β : Nat) (l : List Nat) (k : Nat) (hk : k ≤ l.length) : val β l = val β (l.take k) + β ^ k * val β (l.drop k) := by
  have h := val_append β (l.take k) (l.drop k)
  rw [List.take_append_drop, List.length_take, Nat.min_eq_left hk] at h
  exact h
theorem val_inj {β : Nat} (h1 : 0 < β) {l m : List Nat} (hl : Dig β l) (hm : Dig β m) (hn : l.length = m.length) (h : val β l = val β m) : l = m := by
  induction l generalizing m with
  | nil => cases m with
    | nil => rfl
    | cons d m => simp at hn
  | cons d l ih => cases m with
    | nil => simp at hn
    | cons e m =>
      have hd := hl.head
      have he := hm.head
      rw [val_cons, val_cons] at h
      have h3 : d = e := by
        have h4 : (d + β * val β l) % β = (e + β * val β m) % β := by rw [h]
        rw [Nat.add_mul_mod_self_left, Nat.add_mul_mod_self_left, Nat.mod_eq_of_lt hd, Nat.mod_eq_of_lt he] at h4
        exact h4
      subst h3
      have h5 : val β l = val β m := Nat.eq_of_mul_eq_mul_left h1 (by omega)
      rw [ih hl.tail hm.tail (by simpa using hn) h5]
/-! Cells of digits: uL for limbs, bL for bytes. -/
theorem uL_append (a b : List Nat) : uL (a ++ b) = uL a ++ uL b := by simp [uL]
theorem uL_get (A : List Nat) (x : Nat) (C : List Nat) (i : Nat) (h : i = A.length) : (uL (A ++ x :: C)).toArray[i]? = some (.int .u64 (x : Nat)) := by
  subst h; simp [uL, uval]
theorem bL_get (A : List Nat) (x : Nat) (C : List Nat) (i : Nat) (h : i = A.length) : (bL (A ++ x :: C)).toArray[i]? = some (.int .u8 (x : Nat)) := by
  subst h; simp [bL, bval]
theorem spl_mid (A : List Value) (v : Value) (C : List Value) (y : Value) (i : Nat) (h : i = A.length) : spl (A ++ v :: C).toArray i [y] = (A ++ y :: C).toArray := by
  subst h; simp [spl]
theorem uL_set (A : List Nat) (x : Nat) (C : List Nat) (y i : Nat) (h : i = A.length) : spl (uL (A ++ x :: C)).toArray i [uval y] = (uL (A ++ y :: C)).toArray := by
  simp only [uL, List.map_append, List.map_cons]
  exact spl_mid _ _ _ _ _ (by simpa using h)
theorem bL_set (A : List Nat) (x : Nat) (C : List Nat) (y i : Nat) (h : i = A.length) : spl (bL (A ++ x :: C)).toArray i [bval y] = (bL (A ++ y :: C)).toArray := by
  simp only [bL, List.map_append, List.map_cons]
  exact spl_mid _ _ _ _ _ (by simpa using h)
theorem Blk.setU {w : World} {b o x y : Nat} {A C : List Nat} (h : Blk w b (spl (uL (A ++ x :: C)).toArray o [uval y])) (ho : o = A.length) : Blk w b (uL (A ++ y :: C)).toArray := by
  rw [uL_set A x C y o ho] at h; exact h
theorem Blk.setB {w : World} {b o x y : Nat} {A C : List Nat} (h : Blk w b (spl (bL (A ++ x :: C)).toArray o [bval y])) (ho : o = A.length) : Blk w b (bL (A ++ y :: C)).toArray := by
  rw [bL_set A x C y o ho] at h; exact h
theorem size_uL (l : List Nat) : (uL l).toArray.size = l.length := by simp [uL]
theorem size_bL (l : List Nat) : (bL l).toArray.size = l.length := by simp [bL]
/-- the list cut at a place -/
theorem cut_at (l : List Nat) (i : Nat) (h : i < l.length) : l = l.take i ++ l[i] :: l.drop (i + 1) := by simp
theorem cons_of_len {l : List Nat} (h : 0 < l.length) : ∃ x r, l = x :: r := by
  cases l with
  | nil => simp at h
  | cons x r => exact ⟨x, r, rfl⟩
theorem snoc_of_len {l : List Nat} (h : 0 < l.length) : ∃ r x, l = r ++ [x] := by
  have hne : l ≠ [] := by intro h0; rw [h0] at h; simp at h
  exact ⟨l.dropLast, l.getLast hne, (List.dropLast_concat_getLast hne).symm⟩
end Go.Proofs.YgvaawGreat
