import Derived.Test.YgvaawGreatYD
set_option maxRecDepth 100000
namespace Go.Proofs.YgvaawGreat
open Go
/-! Structs built field by field. -/
def Plc (T : Nat) (pl : Array (Nat × Nat)) : Prop := ∃ fs, Hvaa.prog.underlying T = some (.struct fs) ∧ ∀ w, (fs.mapM (fun f => do pure (f.offset, ← sizeOf f.type)) : Sem (Array (Nat × Nat))).run Hvaa.prog w = .ok pl w
theorem spl_at : ∀ (F : List (List Value)) (i : Nat) (c f : List Value), F[i]? = some f → c.length = f.length → spl F.flatten.toArray (F.take i).flatten.length c = (F.set i c).flatten.toArray := by
  intro F i c f hf hl
  have e : F = F.take i ++ f :: F.drop (i + 1) := by
    have hi : i < F.length := (List.getElem?_eq_some_iff.1 hf).1
    have e1 : F[i] = f := (List.getElem?_eq_some_iff.1 hf).2
    rw [← e1, ← List.drop_eq_getElem_cons hi, List.take_append_drop]
  have hi : i < F.length := (List.getElem?_eq_some_iff.1 hf).1
  rw [List.set_eq_take_append_cons_drop, if_pos hi]
  have e2 : F.flatten = (F.take i).flatten ++ (f ++ (F.drop (i + 1)).flatten) := by
    conv => lhs; rw [e]
    rw [List.flatten_append, List.flatten_cons]
  rw [e2, List.flatten_append, List.flatten_cons]
  generalize (F.take i).flatten = A
  generalize (F.drop (i + 1)).flatten = B
  apply Array.ext_getElem?
  intro j
  have hsz : A.length + c.length ≤ (A ++ (f ++ B)).toArray.size := by simp; omega
  rw [get_spl _ _ _ _ hsz]
  by_cases h : A.length ≤ j ∧ j < A.length + c.length
  · rw [if_pos h, List.getElem?_toArray, List.getElem?_append_right h.1, List.getElem?_append_left (by omega)]
  · rw [if_neg h, List.getElem?_toArray, List.getElem?_toArray]
    rcases Nat.lt_or_ge j A.length with h1 | h1
    · rw [List.getElem?_append_left h1, List.getElem?_append_left h1]
    · rw [List.getElem?_append_right h1, List.getElem?_append_right h1, List.getElem?_append_right (by omega), List.getElem?_append_right (by omega), hl]
theorem fill_nil (pl : Array (Nat × Nat)) (F : List (List Value)) : Instr.fill (pl[·]?) F.flatten.toArray [] = some F.flatten.toArray := rfl
theorem fill_flat {pl : Array (Nat × Nat)} {F : List (List Value)} {i off k : Nat} {v : Value} {c f : List Value} {rest : List (Nat × Value)} {R : Array Value} (hp : pl[i]? = some (off, k)) (hv : v.cells = c.toArray) (hc : c.length = k) (ho : (F.take i).flatten.length = off) (hf : F[i]? = some f) (hk : f.length = k)
    (h : Instr.fill (pl[·]?) (F.set i c).flatten.toArray rest = some R) : Instr.fill (pl[·]?) F.flatten.toArray ((i, v) :: rest) = some R := by
  have hsz : off + k ≤ F.flatten.toArray.size := by
    have e : F = F.take i ++ f :: F.drop (i + 1) := by
      have hi : i < F.length := (List.getElem?_eq_some_iff.1 hf).1
      have e1 : F[i] = f := (List.getElem?_eq_some_iff.1 hf).2
      rw [← e1, ← List.drop_eq_getElem_cons hi, List.take_append_drop]
    have e2 := congrArg (fun q : List (List Value) => q.flatten.length) e
    simp only [List.flatten_append, List.flatten_cons, List.length_append] at e2
    rw [List.size_toArray, e2]
    omega
  rw [fill_one hp (by rw [hv, List.size_toArray, hc]) hsz, hv]
  rw [← ho, spl_at F i c f hf (by rw [hc, hk])]
  exact h
theorem bld_run {T : Nat} {pl : Array (Nat × Nat)} {F : List (List Value)} {parts : List (Nat × Value)} {R : Array Value} (hz : Zr T (.agg F.flatten.toArray)) (hp : Plc T pl) (hf : Instr.fill (pl[·]?) F.flatten.toArray parts = some R) (w : World) : (Instr.build T parts.toArray).run Hvaa.prog w = .ok (.agg R) w := by
  obtain ⟨fs, hU, hm⟩ := hp
  have e1 : (Value.agg F.flatten.toArray).cells = F.flatten.toArray := rfl
  unfold Instr.build
  simp only [Sem.run_bind, run_zero hz, Result.andThen_ok, run_underlying hU, hm w, e1, hf, Sem.run_pure]

theorem plc_44 : Plc 44 #[(0, 1), (1, 1), (2, 1), (3, 1), (4, 1), (5, 20)] := ⟨_, Hvaa.underlying44, fun w => by kernel_rfl⟩
theorem plc_71 : Plc 71 #[(0, 1), (1, 1), (2, 1), (3, 1), (4, 1), (5, 1), (6, 1), (7, 1), (8, 1), (9, 20), (29, 20), (49, 4), (53, 1), (54, 1), (55, 8), (63, 1), (64, 1)] := ⟨_, Hvaa.underlying71, fun w => by kernel_rfl⟩
theorem plc_75 : Plc 75 #[(0, 1), (1, 10), (11, 1792), (1803, 455), (2258, 1), (2259, 1), (2260, 120), (2380, 20), (2400, 4), (2404, 1), (2405, 1), (2406, 1), (2407, 1), (2408, 1), (2409, 4), (2413, 1), (2414, 1), (2415, 20)] := ⟨_, Hvaa.underlying75, fun w => by kernel_rfl⟩
theorem zr_75 : Zr 75 (.agg (([[.pointer none], ([[.slice none 0 0], (List.replicate 8 (.int .u32 0)), [.int .u8 0]] : List (List Value)).flatten, (List.replicate 448 ((List.replicate 4 (.int .u64 0))) : List (List Value)).flatten, (List.replicate 7 (([[.int .u8 0], [.int .u8 0], [.int .u8 0], [.bool false], [.int .u16 0], [.int .u16 0], [.int .u16 0], [.int .u64 0], [.int .i32 0], (List.replicate 20 (.int .u8 0)), (List.replicate 20 (.int .u8 0)), (List.replicate 4 (.int .u64 0)), [.slice none 0 0], [.slice none 0 0], (List.replicate 8 (.int .u64 0)), [.int .u32 0], [.int .u32 0]] : List (List Value)).flatten) : List (List Value)).flatten, [.int .i8 0], [.slice none 0 0], ([(List.replicate 20 (.int .u8 0)), [.int .u64 0], [.int .u64 0], [.int .u64 0], (List.replicate 32 (.int .u8 0)), (List.replicate 32 (.int .u8 0)), (List.replicate 32 (.int .u8 0)), [.slice none 0 0]] : List (List Value)).flatten, (List.replicate 20 (.int .u8 0)), (List.replicate 4 (.int .u64 0)), [.int .u8 0], [.int .u8 0], [.int .u8 0], [.int .u64 0], [.int .u64 0], (List.replicate 4 (.int .u64 0)), [.int .i32 0], [.int .i32 0], (List.replicate 20 (.int .u8 0))] : List (List Value)).flatten : List Value).toArray) := by
  show (Hvaa.prog.info? 75).bind (·.zero) = _
  kernel_rfl
theorem plc_98 : Plc 98 #[(0, 1), (1, 1), (2, 1), (3, 1), (4, 1), (5, 1), (6, 1), (7, 1)] := ⟨_, Hvaa.underlying98, fun w => by kernel_rfl⟩
theorem plc_102 : Plc 102 #[(0, 8), (8, 1), (9, 1), (10, 1), (11, 1), (12, 1), (13, 1), (14, 1), (15, 1), (16, 1), (17, 1), (18, 1), (19, 20), (39, 20), (59, 120)] := ⟨_, Hvaa.underlying102, fun w => by kernel_rfl⟩
theorem plc_107 : Plc 107 #[(0, 20), (20, 1), (21, 1), (22, 1), (23, 1)] := ⟨_, Hvaa.underlying107, fun w => by kernel_rfl⟩
theorem plc_113 : Plc 113 #[(0, 20), (20, 1), (21, 32), (53, 1), (54, 1)] := ⟨_, Hvaa.underlying113, fun w => by kernel_rfl⟩
theorem plc_115 : Plc 115 #[(0, 1), (1, 1)] := ⟨_, Hvaa.underlying115, fun w => by kernel_rfl⟩
theorem plc_117 : Plc 117 #[(0, 32), (32, 32)] := ⟨_, Hvaa.underlying117, fun w => by kernel_rfl⟩
theorem plc_131 : Plc 131 #[(0, 20), (20, 1), (21, 1)] := ⟨_, Hvaa.underlying131, fun w => by kernel_rfl⟩
theorem plc_139 : Plc 139 #[(0, 20), (20, 1), (21, 1)] := ⟨_, Hvaa.underlying139, fun w => by kernel_rfl⟩
theorem plc_146 : Plc 146 #[(0, 1), (1, 1), (2, 1), (3, 1), (4, 1), (5, 1), (6, 1), (7, 1), (8, 1), (9, 1), (10, 1), (11, 1), (12, 20), (32, 20), (52, 8)] := ⟨_, Hvaa.underlying146, fun w => by kernel_rfl⟩
theorem plc_167 : Plc 167 #[(0, 20), (20, 1), (21, 4), (25, 1), (26, 1), (27, 1), (28, 1)] := ⟨_, Hvaa.underlying167, fun w => by kernel_rfl⟩
theorem plc_170 : Plc 170 #[(0, 1), (1, 4), (5, 1)] := ⟨_, Hvaa.underlying170, fun w => by kernel_rfl⟩
theorem plc_176 : Plc 176 #[(0, 1), (1, 4), (5, 4), (9, 4), (13, 1)] := ⟨_, Hvaa.underlying176, fun w => by kernel_rfl⟩
theorem plc_218 : Plc 218 #[(0, 1), (1, 1), (2, 1), (3, 4), (7, 1), (8, 1)] := ⟨_, Hvaa.underlying218, fun w => by kernel_rfl⟩
theorem plc_232 : Plc 232 #[(0, 20), (20, 1)] := ⟨_, Hvaa.underlying232, fun w => by kernel_rfl⟩
theorem plc_295 : Plc 295 #[(0, 20), (20, 1), (21, 1)] := ⟨_, Hvaa.underlying295, fun w => by kernel_rfl⟩
theorem plc_430 : Plc 430 #[(0, 1), (1, 4), (5, 4)] := ⟨_, Hvaa.underlying430, fun w => by kernel_rfl⟩
end Go.Proofs.YgvaawGreat
