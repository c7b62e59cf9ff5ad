import Derived.Test.YgvaawGreatDraw
set_option linter.unusedSimpArgs false
set_option linter.unusedVariables false
namespace Go.Proofs.YgvaawGreat
open Go
/-! Looking a slot up. -/
theorem g0 {s : Nat → Value} {d : Nat} {v : Value} : upd s d v d = v := upd_same s d v
theorem gS {s : Nat → Value} {d i : Nat} {v u : Value} (hb : Nat.beq i d = false) (h : s i = u) : upd s d v i = u := by
  simp only [upd, hb, cond_false]; exact h
theorem et {n t : Nat} {s : Nat → Value} {v : Value} (h : s t = v) (hn : Nat.blt t n = true) : ev n s (.tmp t) = v := by
  simp only [ev, hn, cond_true]; exact h
/-! Entry: the arguments in the first slots. -/
def base : Nat → Value := fun _ => undef
theorem args0 : ofArgs [] = base := by funext i; simp [ofArgs, base]
def ups (s : Nat → Value) (k : Nat) : List Value → Nat → Value
  | [] => s
  | v :: l => upd (ups s (k + 1) l) k v
theorem ups_get (s : Nat → Value) (l : List Value) (k i : Nat) : ups s k l i = if k ≤ i then (match l[i - k]? with | some v => v | none => s i) else s i := by
  induction l generalizing k with
  | nil => simp [ups]
  | cons v l ih =>
    simp only [ups]
    by_cases h : i = k
    · subst h; rw [upd_same]; simp
    · rw [upd_ne _ _ _ _ h, ih]
      by_cases h2 : k ≤ i
      · rw [if_pos (by omega), if_pos h2]
        rw [show i - k = (i - (k + 1)) + 1 from by omega, List.getElem?_cons_succ]
      · rw [if_neg (by omega), if_neg h2]
theorem ofArgs_ups (l : List Value) : ofArgs l = ups base 0 l := by
  funext i
  rw [ups_get]
  simp only [ofArgs, base, Nat.zero_le, if_true, Nat.sub_zero, List.getD_eq_getElem?_getD]
  cases l[i]? <;> rfl
theorem enter {f n : Nat} {fn : Func} {c : Code} {args : List Value} {w : World} {R : Value → World → Prop}
    (hf : Hvaa.prog.funcs[f]? = some fn) (hb : fn.body = some c) (hN : fn.ntmps = n) (hn : args.length ≤ n)
    (h : c.wp Hvaa.prog (Post fn R) (mk n (ups base 0 args)) w) : Ret f args w R := by
  subst hN
  exact ret_of_wp hf hb hn (by rw [ofArgs_ups]; exact h)
/-! Results. -/
def Res (n : Nat) (s : Nat → Value) (w : World) (r : ResultVar) (v : Value) : Prop :=
  match r with
  | .tmp t => ev n s (.tmp t) = v
  | .cell p T => ∃ b o k, ev n s (.tmp p) = .pointer (some ⟨b, o, none⟩) ∧ ((IsOne T ∧ w.cell? ⟨b, o, none⟩ = some v) ∨ (IsAgg T ∧ Sz T k ∧ ∃ cs : List Value, cs.length = k ∧ Row w b o cs ∧ v = .agg cs.toArray))
theorem res_tmp {n t : Nat} {s : Nat → Value} {w : World} {v : Value} (h : ev n s (.tmp t) = v) : Res n s w (.tmp t) v := h
theorem res_one {n p T b o : Nat} {s : Nat → Value} {w : World} {v : Value} (h1 : IsOne T) (h : ev n s (.tmp p) = .pointer (some ⟨b, o, none⟩)) (hc : w.cell? ⟨b, o, none⟩ = some v) : Res n s w (.cell p T) v := ⟨b, o, 0, h, .inl ⟨h1, hc⟩⟩
theorem res_row {n p T b o k : Nat} {s : Nat → Value} {w : World} {cs : List Value} (h1 : IsAgg T) (hs : Sz T k) (h : ev n s (.tmp p) = .pointer (some ⟨b, o, none⟩)) (hl : cs.length = k) (hc : Row w b o cs) : Res n s w (.cell p T) (.agg cs.toArray) := ⟨b, o, k, h, .inr ⟨h1, hs, cs, hl, hc, rfl⟩⟩
theorem res_blk {n p T b k : Nat} {s : Nat → Value} {w : World} {cs : Array Value} (h1 : IsAgg T) (hs : Sz T k) (h : ev n s (.tmp p) = .pointer (some ⟨b, 0, none⟩)) (hl : cs.size = k) (hc : Blk w b cs) : Res n s w (.cell p T) (.agg cs) := by
  have := res_row (cs := cs.toList) h1 hs h (by simpa using hl) (hc.row fun i v hv => by simpa using hv)
  simpa using this
def resF (tmps : Array Value) : ResultVar → Sem Value
  | .tmp t => pure (tmps.getD t undef)
  | .cell a t => do loadVar t (← asAddr (tmps.getD a undef))
theorem results_eq (fn : Func) (tmps : Array Value) : results fn tmps = (do let vs ← fn.results.mapM (resF tmps); pure (if h : vs.size = 1 then vs[0] else .tuple vs)) := by
  unfold results
  congr 1
theorem res_run {n : Nat} {s : Nat → Value} {w : World} {r : ResultVar} {v : Value} (h : Res n s w r v) : (resF (mk n s).tmps r).run Hvaa.prog w = .ok v w := by
  cases r with
  | tmp t => simp only [resF]; rw [mk_getD]; unfold Res at h; simp only at h; rw [h]; rfl
  | cell p T =>
    obtain ⟨b, o, k, h1, h2⟩ := h
    simp only [resF]
    rw [mk_getD, h1]
    rcases h2 with ⟨h3, h4⟩ | ⟨h3, h4, cs, h5, h6, h7⟩
    · simp [asAddr, loadVar, h3 w, h4]
    · have hc : (loadCells ⟨b, o, none⟩ cs.length).run Hvaa.prog w = .ok cs.toArray w :=
        run_loadCells_list (P := Hvaa.prog) w ⟨b, o, none⟩ cs (fun j v h => by rw [addr_add]; exact h6 j v h)
      rw [h5] at hc
      simp [asAddr, loadVar, h3 w, run_sizeOf h4 w, hc, h7]
section
variable {fn : Func} {R : Value → World → Prop} {n : Nat} {s : Nat → Value} {w : World} {r1 r2 r3 r4 r5 : ResultVar} {v1 v2 v3 v4 v5 : Value}
theorem ret0 (hr : fn.results = #[]) (h : R (.tuple #[]) w) : Post fn R .ret (mk n s) w := post_ret rfl (by simp [results_eq, hr]) h
theorem end0 (hr : fn.results = #[]) (h : R (.tuple #[]) w) : Post fn R .normal (mk n s) w := post_normal rfl (by simp [results_eq, hr]) h
theorem ret1 (hr : fn.results = #[r1]) (h1 : Res n s w r1 v1) (h : R v1 w) : Post fn R .ret (mk n s) w := post_ret rfl (by simp [results_eq, hr, res_run h1]) h
theorem ret2 (hr : fn.results = #[r1, r2]) (h1 : Res n s w r1 v1) (h2 : Res n s w r2 v2) (h : R (.tuple #[v1, v2]) w) : Post fn R .ret (mk n s) w := post_ret rfl (by simp [results_eq, hr, res_run h1, res_run h2]) h
theorem ret3 (hr : fn.results = #[r1, r2, r3]) (h1 : Res n s w r1 v1) (h2 : Res n s w r2 v2) (h3 : Res n s w r3 v3) (h : R (.tuple #[v1, v2, v3]) w) : Post fn R .ret (mk n s) w := post_ret rfl (by simp [results_eq, hr, res_run h1, res_run h2, res_run h3]) h
theorem ret4 (hr : fn.results = #[r1, r2, r3, r4]) (h1 : Res n s w r1 v1) (h2 : Res n s w r2 v2) (h3 : Res n s w r3 v3) (h4 : Res n s w r4 v4) (h : R (.tuple #[v1, v2, v3, v4]) w) : Post fn R .ret (mk n s) w := post_ret rfl (by simp [results_eq, hr, res_run h1, res_run h2, res_run h3, res_run h4]) h
theorem ret5 (hr : fn.results = #[r1, r2, r3, r4, r5]) (h1 : Res n s w r1 v1) (h2 : Res n s w r2 v2) (h3 : Res n s w r3 v3) (h4 : Res n s w r4 v4) (h5 : Res n s w r5 v5) (h : R (.tuple #[v1, v2, v3, v4, v5]) w) : Post fn R .ret (mk n s) w := post_ret rfl (by simp [results_eq, hr, res_run h1, res_run h2, res_run h3, res_run h4, res_run h5]) h
end
/-! Ways out of blocks. -/
theorem in_exit {id : Nat} {Q : Exit → Act → World → Prop} {a : Act} {w : World} (h : Q .normal a w) : Exit.inBlock id Q (.exit id) a w := by simp only [Exit.inBlock, if_true]; exact h
theorem in_past {id k : Nat} {Q : Exit → Act → World → Prop} {a : Act} {w : World} (hk : (k == id) = false) (h : Q (.exit k) a w) : Exit.inBlock id Q (.exit k) a w := by
  have : k ≠ id := by simpa using hk
  simp only [Exit.inBlock, if_neg this]; exact h
theorem in_normal {id : Nat} {Q : Exit → Act → World → Prop} {a : Act} {w : World} (h : Q .normal a w) : Exit.inBlock id Q .normal a w := h
theorem in_ret {id : Nat} {Q : Exit → Act → World → Prop} {a : Act} {w : World} (h : Q .ret a w) : Exit.inBlock id Q .ret a w := h
theorem t_normal {K : Act → World → Prop} {Q : Exit → Act → World → Prop} {a : Act} {w : World} (h : K a w) : Exit.then K Q .normal a w := h
theorem t_ret {K : Act → World → Prop} {Q : Exit → Act → World → Prop} {a : Act} {w : World} (h : Q .ret a w) : Exit.then K Q .ret a w := h
theorem t_exit {K : Act → World → Prop} {Q : Exit → Act → World → Prop} {id : Nat} {a : Act} {w : World} (h : Q (.exit id) a w) : Exit.then K Q (.exit id) a w := h
/-! Forgetting all slots but a few. -/
def keep (s : Nat → Value) (g : Nat → Value) : List (Nat × Value) → Nat → Value
  | [] => g
  | (i, v) :: l => upd (keep s g l) i v
theorem keep_self (s : Nat → Value) (l : List (Nat × Value)) (h : ∀ p ∈ l, s p.1 = p.2) : keep s s l = s := by
  induction l with
  | nil => rfl
  | cons p l ih =>
    obtain ⟨i, v⟩ := p
    funext k
    simp only [keep]
    rw [ih fun q hq => h q (List.mem_cons_of_mem _ hq)]
    by_cases hk : k = i
    · subst hk; rw [upd_same]; exact (h (k, v) (List.mem_cons_self ..)).symm
    · rw [upd_ne _ _ _ _ hk]
section
variable {c : Code} {Q : Exit → Act → World → Prop} {n : Nat} {s : Nat → Value} {w : World}
theorem upd_self {i : Nat} {v : Value} (h : s i = v) : upd s i v = s := by
  funext k
  by_cases hk : k = i
  · subst hk; rw [upd_same, h]
  · rw [upd_ne _ _ _ _ hk]
/-- the frame, its known slots named; what else it holds is forgotten -/
theorem fg0 (h : ∀ g, c.wp Hvaa.prog Q (mk n g) w) : c.wp Hvaa.prog Q (mk n s) w := h s
theorem fg1 (i1 : Nat) {v1 : Value} (h1 : s i1 = v1) (h : ∀ g, c.wp Hvaa.prog Q (mk n (upd g i1 v1)) w) : c.wp Hvaa.prog Q (mk n s) w := by
  have := h s
  rw [upd_self h1] at this
  exact this
theorem fK1 {K : Act → World → Prop} (i1 : Nat) {v1 : Value} (h1 : s i1 = v1) (h : ∀ g, K (mk n (upd g i1 v1)) w) : K (mk n s) w := by
  have := h s
  rw [upd_self h1] at this
  exact this
theorem fg2 (i1 i2 : Nat) {v1 v2 : Value} (h1 : s i1 = v1) (h2 : s i2 = v2) (h : ∀ g, c.wp Hvaa.prog Q (mk n (upd (upd g i1 v1) i2 v2)) w) : c.wp Hvaa.prog Q (mk n s) w := by
  have := h s
  rw [upd_self h1, upd_self h2] at this
  exact this
theorem fK2 {K : Act → World → Prop} (i1 i2 : Nat) {v1 v2 : Value} (h1 : s i1 = v1) (h2 : s i2 = v2) (h : ∀ g, K (mk n (upd (upd g i1 v1) i2 v2)) w) : K (mk n s) w := by
  have := h s
  rw [upd_self h1, upd_self h2] at this
  exact this
theorem fg3 (i1 i2 i3 : Nat) {v1 v2 v3 : Value} (h1 : s i1 = v1) (h2 : s i2 = v2) (h3 : s i3 = v3) (h : ∀ g, c.wp Hvaa.prog Q (mk n (upd (upd (upd g i1 v1) i2 v2) i3 v3)) w) : c.wp Hvaa.prog Q (mk n s) w := by
  have := h s
  rw [upd_self h1, upd_self h2, upd_self h3] at this
  exact this
theorem fK3 {K : Act → World → Prop} (i1 i2 i3 : Nat) {v1 v2 v3 : Value} (h1 : s i1 = v1) (h2 : s i2 = v2) (h3 : s i3 = v3) (h : ∀ g, K (mk n (upd (upd (upd g i1 v1) i2 v2) i3 v3)) w) : K (mk n s) w := by
  have := h s
  rw [upd_self h1, upd_self h2, upd_self h3] at this
  exact this
theorem fg4 (i1 i2 i3 i4 : Nat) {v1 v2 v3 v4 : Value} (h1 : s i1 = v1) (h2 : s i2 = v2) (h3 : s i3 = v3) (h4 : s i4 = v4) (h : ∀ g, c.wp Hvaa.prog Q (mk n (upd (upd (upd (upd g i1 v1) i2 v2) i3 v3) i4 v4)) w) : c.wp Hvaa.prog Q (mk n s) w := by
  have := h s
  rw [upd_self h1, upd_self h2, upd_self h3, upd_self h4] at this
  exact this
theorem fK4 {K : Act → World → Prop} (i1 i2 i3 i4 : Nat) {v1 v2 v3 v4 : Value} (h1 : s i1 = v1) (h2 : s i2 = v2) (h3 : s i3 = v3) (h4 : s i4 = v4) (h : ∀ g, K (mk n (upd (upd (upd (upd g i1 v1) i2 v2) i3 v3) i4 v4)) w) : K (mk n s) w := by
  have := h s
  rw [upd_self h1, upd_self h2, upd_self h3, upd_self h4] at this
  exact this
theorem fg5 (i1 i2 i3 i4 i5 : Nat) {v1 v2 v3 v4 v5 : Value} (h1 : s i1 = v1) (h2 : s i2 = v2) (h3 : s i3 = v3) (h4 : s i4 = v4) (h5 : s i5 = v5) (h : ∀ g, c.wp Hvaa.prog Q (mk n (upd (upd (upd (upd (upd g i1 v1) i2 v2) i3 v3) i4 v4) i5 v5)) w) : c.wp Hvaa.prog Q (mk n s) w := by
  have := h s
  rw [upd_self h1, upd_self h2, upd_self h3, upd_self h4, upd_self h5] at this
  exact this
theorem fK5 {K : Act → World → Prop} (i1 i2 i3 i4 i5 : Nat) {v1 v2 v3 v4 v5 : Value} (h1 : s i1 = v1) (h2 : s i2 = v2) (h3 : s i3 = v3) (h4 : s i4 = v4) (h5 : s i5 = v5) (h : ∀ g, K (mk n (upd (upd (upd (upd (upd g i1 v1) i2 v2) i3 v3) i4 v4) i5 v5)) w) : K (mk n s) w := by
  have := h s
  rw [upd_self h1, upd_self h2, upd_self h3, upd_self h4, upd_self h5] at this
  exact this
theorem fg6 (i1 i2 i3 i4 i5 i6 : Nat) {v1 v2 v3 v4 v5 v6 : Value} (h1 : s i1 = v1) (h2 : s i2 = v2) (h3 : s i3 = v3) (h4 : s i4 = v4) (h5 : s i5 = v5) (h6 : s i6 = v6) (h : ∀ g, c.wp Hvaa.prog Q (mk n (upd (upd (upd (upd (upd (upd g i1 v1) i2 v2) i3 v3) i4 v4) i5 v5) i6 v6)) w) : c.wp Hvaa.prog Q (mk n s) w := by
  have := h s
  rw [upd_self h1, upd_self h2, upd_self h3, upd_self h4, upd_self h5, upd_self h6] at this
  exact this
theorem fK6 {K : Act → World → Prop} (i1 i2 i3 i4 i5 i6 : Nat) {v1 v2 v3 v4 v5 v6 : Value} (h1 : s i1 = v1) (h2 : s i2 = v2) (h3 : s i3 = v3) (h4 : s i4 = v4) (h5 : s i5 = v5) (h6 : s i6 = v6) (h : ∀ g, K (mk n (upd (upd (upd (upd (upd (upd g i1 v1) i2 v2) i3 v3) i4 v4) i5 v5) i6 v6)) w) : K (mk n s) w := by
  have := h s
  rw [upd_self h1, upd_self h2, upd_self h3, upd_self h4, upd_self h5, upd_self h6] at this
  exact this
theorem fg7 (i1 i2 i3 i4 i5 i6 i7 : Nat) {v1 v2 v3 v4 v5 v6 v7 : Value} (h1 : s i1 = v1) (h2 : s i2 = v2) (h3 : s i3 = v3) (h4 : s i4 = v4) (h5 : s i5 = v5) (h6 : s i6 = v6) (h7 : s i7 = v7) (h : ∀ g, c.wp Hvaa.prog Q (mk n (upd (upd (upd (upd (upd (upd (upd g i1 v1) i2 v2) i3 v3) i4 v4) i5 v5) i6 v6) i7 v7)) w) : c.wp Hvaa.prog Q (mk n s) w := by
  have := h s
  rw [upd_self h1, upd_self h2, upd_self h3, upd_self h4, upd_self h5, upd_self h6, upd_self h7] at this
  exact this
theorem fK7 {K : Act → World → Prop} (i1 i2 i3 i4 i5 i6 i7 : Nat) {v1 v2 v3 v4 v5 v6 v7 : Value} (h1 : s i1 = v1) (h2 : s i2 = v2) (h3 : s i3 = v3) (h4 : s i4 = v4) (h5 : s i5 = v5) (h6 : s i6 = v6) (h7 : s i7 = v7) (h : ∀ g, K (mk n (upd (upd (upd (upd (upd (upd (upd g i1 v1) i2 v2) i3 v3) i4 v4) i5 v5) i6 v6) i7 v7)) w) : K (mk n s) w := by
  have := h s
  rw [upd_self h1, upd_self h2, upd_self h3, upd_self h4, upd_self h5, upd_self h6, upd_self h7] at this
  exact this
theorem fg8 (i1 i2 i3 i4 i5 i6 i7 i8 : Nat) {v1 v2 v3 v4 v5 v6 v7 v8 : Value} (h1 : s i1 = v1) (h2 : s i2 = v2) (h3 : s i3 = v3) (h4 : s i4 = v4) (h5 : s i5 = v5) (h6 : s i6 = v6) (h7 : s i7 = v7) (h8 : s i8 = v8) (h : ∀ g, c.wp Hvaa.prog Q (mk n (upd (upd (upd (upd (upd (upd (upd (upd g i1 v1) i2 v2) i3 v3) i4 v4) i5 v5) i6 v6) i7 v7) i8 v8)) w) : c.wp Hvaa.prog Q (mk n s) w := by
  have := h s
  rw [upd_self h1, upd_self h2, upd_self h3, upd_self h4, upd_self h5, upd_self h6, upd_self h7, upd_self h8] at this
  exact this
theorem fK8 {K : Act → World → Prop} (i1 i2 i3 i4 i5 i6 i7 i8 : Nat) {v1 v2 v3 v4 v5 v6 v7 v8 : Value} (h1 : s i1 = v1) (h2 : s i2 = v2) (h3 : s i3 = v3) (h4 : s i4 = v4) (h5 : s i5 = v5) (h6 : s i6 = v6) (h7 : s i7 = v7) (h8 : s i8 = v8) (h : ∀ g, K (mk n (upd (upd (upd (upd (upd (upd (upd (upd g i1 v1) i2 v2) i3 v3) i4 v4) i5 v5) i6 v6) i7 v7) i8 v8)) w) : K (mk n s) w := by
  have := h s
  rw [upd_self h1, upd_self h2, upd_self h3, upd_self h4, upd_self h5, upd_self h6, upd_self h7, upd_self h8] at this
  exact this
theorem fg9 (i1 i2 i3 i4 i5 i6 i7 i8 i9 : Nat) {v1 v2 v3 v4 v5 v6 v7 v8 v9 : Value} (h1 : s i1 = v1) (h2 : s i2 = v2) (h3 : s i3 = v3) (h4 : s i4 = v4) (h5 : s i5 = v5) (h6 : s i6 = v6) (h7 : s i7 = v7) (h8 : s i8 = v8) (h9 : s i9 = v9) (h : ∀ g, c.wp Hvaa.prog Q (mk n (upd (upd (upd (upd (upd (upd (upd (upd (upd g i1 v1) i2 v2) i3 v3) i4 v4) i5 v5) i6 v6) i7 v7) i8 v8) i9 v9)) w) : c.wp Hvaa.prog Q (mk n s) w := by
  have := h s
  rw [upd_self h1, upd_self h2, upd_self h3, upd_self h4, upd_self h5, upd_self h6, upd_self h7, upd_self h8, upd_self h9] at this
  exact this
theorem fK9 {K : Act → World → Prop} (i1 i2 i3 i4 i5 i6 i7 i8 i9 : Nat) {v1 v2 v3 v4 v5 v6 v7 v8 v9 : Value} (h1 : s i1 = v1) (h2 : s i2 = v2) (h3 : s i3 = v3) (h4 : s i4 = v4) (h5 : s i5 = v5) (h6 : s i6 = v6) (h7 : s i7 = v7) (h8 : s i8 = v8) (h9 : s i9 = v9) (h : ∀ g, K (mk n (upd (upd (upd (upd (upd (upd (upd (upd (upd g i1 v1) i2 v2) i3 v3) i4 v4) i5 v5) i6 v6) i7 v7) i8 v8) i9 v9)) w) : K (mk n s) w := by
  have := h s
  rw [upd_self h1, upd_self h2, upd_self h3, upd_self h4, upd_self h5, upd_self h6, upd_self h7, upd_self h8, upd_self h9] at this
  exact this
theorem fg10 (i1 i2 i3 i4 i5 i6 i7 i8 i9 i10 : Nat) {v1 v2 v3 v4 v5 v6 v7 v8 v9 v10 : Value} (h1 : s i1 = v1) (h2 : s i2 = v2) (h3 : s i3 = v3) (h4 : s i4 = v4) (h5 : s i5 = v5) (h6 : s i6 = v6) (h7 : s i7 = v7) (h8 : s i8 = v8) (h9 : s i9 = v9) (h10 : s i10 = v10) (h : ∀ g, c.wp Hvaa.prog Q (mk n (upd (upd (upd (upd (upd (upd (upd (upd (upd (upd g i1 v1) i2 v2) i3 v3) i4 v4) i5 v5) i6 v6) i7 v7) i8 v8) i9 v9) i10 v10)) w) : c.wp Hvaa.prog Q (mk n s) w := by
  have := h s
  rw [upd_self h1, upd_self h2, upd_self h3, upd_self h4, upd_self h5, upd_self h6, upd_self h7, upd_self h8, upd_self h9, upd_self h10] at this
  exact this
theorem fK10 {K : Act → World → Prop} (i1 i2 i3 i4 i5 i6 i7 i8 i9 i10 : Nat) {v1 v2 v3 v4 v5 v6 v7 v8 v9 v10 : Value} (h1 : s i1 = v1) (h2 : s i2 = v2) (h3 : s i3 = v3) (h4 : s i4 = v4) (h5 : s i5 = v5) (h6 : s i6 = v6) (h7 : s i7 = v7) (h8 : s i8 = v8) (h9 : s i9 = v9) (h10 : s i10 = v10) (h : ∀ g, K (mk n (upd (upd (upd (upd (upd (upd (upd (upd (upd (upd g i1 v1) i2 v2) i3 v3) i4 v4) i5 v5) i6 v6) i7 v7) i8 v8) i9 v9) i10 v10)) w) : K (mk n s) w := by
  have := h s
  rw [upd_self h1, upd_self h2, upd_self h3, upd_self h4, upd_self h5, upd_self h6, upd_self h7, upd_self h8, upd_self h9, upd_self h10] at this
  exact this
theorem fg11 (i1 i2 i3 i4 i5 i6 i7 i8 i9 i10 i11 : Nat) {v1 v2 v3 v4 v5 v6 v7 v8 v9 v10 v11 : Value} (h1 : s i1 = v1) (h2 : s i2 = v2) (h3 : s i3 = v3) (h4 : s i4 = v4) (h5 : s i5 = v5) (h6 : s i6 = v6) (h7 : s i7 = v7) (h8 : s i8 = v8) (h9 : s i9 = v9) (h10 : s i10 = v10) (h11 : s i11 = v11) (h : ∀ g, c.wp Hvaa.prog Q (mk n (upd (upd (upd (upd (upd (upd (upd (upd (upd (upd (upd g i1 v1) i2 v2) i3 v3) i4 v4) i5 v5) i6 v6) i7 v7) i8 v8) i9 v9) i10 v10) i11 v11)) w) : c.wp Hvaa.prog Q (mk n s) w := by
  have := h s
  rw [upd_self h1, upd_self h2, upd_self h3, upd_self h4, upd_self h5, upd_self h6, upd_self h7, upd_self h8, upd_self h9, upd_self h10, upd_self h11] at this
  exact this
theorem fK11 {K : Act → World → Prop} (i1 i2 i3 i4 i5 i6 i7 i8 i9 i10 i11 : Nat) {v1 v2 v3 v4 v5 v6 v7 v8 v9 v10 v11 : Value} (h1 : s i1 = v1) (h2 : s i2 = v2) (h3 : s i3 = v3) (h4 : s i4 = v4) (h5 : s i5 = v5) (h6 : s i6 = v6) (h7 : s i7 = v7) (h8 : s i8 = v8) (h9 : s i9 = v9) (h10 : s i10 = v10) (h11 : s i11 = v11) (h : ∀ g, K (mk n (upd (upd (upd (upd (upd (upd (upd (upd (upd (upd (upd g i1 v1) i2 v2) i3 v3) i4 v4) i5 v5) i6 v6) i7 v7) i8 v8) i9 v9) i10 v10) i11 v11)) w) : K (mk n s) w := by
  have := h s
  rw [upd_self h1, upd_self h2, upd_self h3, upd_self h4, upd_self h5, upd_self h6, upd_self h7, upd_self h8, upd_self h9, upd_self h10, upd_self h11] at this
  exact this
theorem fg12 (i1 i2 i3 i4 i5 i6 i7 i8 i9 i10 i11 i12 : Nat) {v1 v2 v3 v4 v5 v6 v7 v8 v9 v10 v11 v12 : Value} (h1 : s i1 = v1) (h2 : s i2 = v2) (h3 : s i3 = v3) (h4 : s i4 = v4) (h5 : s i5 = v5) (h6 : s i6 = v6) (h7 : s i7 = v7) (h8 : s i8 = v8) (h9 : s i9 = v9) (h10 : s i10 = v10) (h11 : s i11 = v11) (h12 : s i12 = v12) (h : ∀ g, c.wp Hvaa.prog Q (mk n (upd (upd (upd (upd (upd (upd (upd (upd (upd (upd (upd (upd g i1 v1) i2 v2) i3 v3) i4 v4) i5 v5) i6 v6) i7 v7) i8 v8) i9 v9) i10 v10) i11 v11) i12 v12)) w) : c.wp Hvaa.prog Q (mk n s) w := by
  have := h s
  rw [upd_self h1, upd_self h2, upd_self h3, upd_self h4, upd_self h5, upd_self h6, upd_self h7, upd_self h8, upd_self h9, upd_self h10, upd_self h11, upd_self h12] at this
  exact this
theorem fK12 {K : Act → World → Prop} (i1 i2 i3 i4 i5 i6 i7 i8 i9 i10 i11 i12 : Nat) {v1 v2 v3 v4 v5 v6 v7 v8 v9 v10 v11 v12 : Value} (h1 : s i1 = v1) (h2 : s i2 = v2) (h3 : s i3 = v3) (h4 : s i4 = v4) (h5 : s i5 = v5) (h6 : s i6 = v6) (h7 : s i7 = v7) (h8 : s i8 = v8) (h9 : s i9 = v9) (h10 : s i10 = v10) (h11 : s i11 = v11) (h12 : s i12 = v12) (h : ∀ g, K (mk n (upd (upd (upd (upd (upd (upd (upd (upd (upd (upd (upd (upd g i1 v1) i2 v2) i3 v3) i4 v4) i5 v5) i6 v6) i7 v7) i8 v8) i9 v9) i10 v10) i11 v11) i12 v12)) w) : K (mk n s) w := by
  have := h s
  rw [upd_self h1, upd_self h2, upd_self h3, upd_self h4, upd_self h5, upd_self h6, upd_self h7, upd_self h8, upd_self h9, upd_self h10, upd_self h11, upd_self h12] at this
  exact this
theorem fg13 (i1 i2 i3 i4 i5 i6 i7 i8 i9 i10 i11 i12 i13 : Nat) {v1 v2 v3 v4 v5 v6 v7 v8 v9 v10 v11 v12 v13 : Value} (h1 : s i1 = v1) (h2 : s i2 = v2) (h3 : s i3 = v3) (h4 : s i4 = v4) (h5 : s i5 = v5) (h6 : s i6 = v6) (h7 : s i7 = v7) (h8 : s i8 = v8) (h9 : s i9 = v9) (h10 : s i10 = v10) (h11 : s i11 = v11) (h12 : s i12 = v12) (h13 : s i13 = v13) (h : ∀ g, c.wp Hvaa.prog Q (mk n (upd (upd (upd (upd (upd (upd (upd (upd (upd (upd (upd (upd (upd g i1 v1) i2 v2) i3 v3) i4 v4) i5 v5) i6 v6) i7 v7) i8 v8) i9 v9) i10 v10) i11 v11) i12 v12) i13 v13)) w) : c.wp Hvaa.prog Q (mk n s) w := by
  have := h s
  rw [upd_self h1, upd_self h2, upd_self h3, upd_self h4, upd_self h5, upd_self h6, upd_self h7, upd_self h8, upd_self h9, upd_self h10, upd_self h11, upd_self h12, upd_self h13] at this
  exact this
theorem fK13 {K : Act → World → Prop} (i1 i2 i3 i4 i5 i6 i7 i8 i9 i10 i11 i12 i13 : Nat) {v1 v2 v3 v4 v5 v6 v7 v8 v9 v10 v11 v12 v13 : Value} (h1 : s i1 = v1) (h2 : s i2 = v2) (h3 : s i3 = v3) (h4 : s i4 = v4) (h5 : s i5 = v5) (h6 : s i6 = v6) (h7 : s i7 = v7) (h8 : s i8 = v8) (h9 : s i9 = v9) (h10 : s i10 = v10) (h11 : s i11 = v11) (h12 : s i12 = v12) (h13 : s i13 = v13) (h : ∀ g, K (mk n (upd (upd (upd (upd (upd (upd (upd (upd (upd (upd (upd (upd (upd g i1 v1) i2 v2) i3 v3) i4 v4) i5 v5) i6 v6) i7 v7) i8 v8) i9 v9) i10 v10) i11 v11) i12 v12) i13 v13)) w) : K (mk n s) w := by
  have := h s
  rw [upd_self h1, upd_self h2, upd_self h3, upd_self h4, upd_self h5, upd_self h6, upd_self h7, upd_self h8, upd_self h9, upd_self h10, upd_self h11, upd_self h12, upd_self h13] at this
  exact this
theorem fg14 (i1 i2 i3 i4 i5 i6 i7 i8 i9 i10 i11 i12 i13 i14 : Nat) {v1 v2 v3 v4 v5 v6 v7 v8 v9 v10 v11 v12 v13 v14 : Value} (h1 : s i1 = v1) (h2 : s i2 = v2) (h3 : s i3 = v3) (h4 : s i4 = v4) (h5 : s i5 = v5) (h6 : s i6 = v6) (h7 : s i7 = v7) (h8 : s i8 = v8) (h9 : s i9 = v9) (h10 : s i10 = v10) (h11 : s i11 = v11) (h12 : s i12 = v12) (h13 : s i13 = v13) (h14 : s i14 = v14) (h : ∀ g, c.wp Hvaa.prog Q (mk n (upd (upd (upd (upd (upd (upd (upd (upd (upd (upd (upd (upd (upd (upd g i1 v1) i2 v2) i3 v3) i4 v4) i5 v5) i6 v6) i7 v7) i8 v8) i9 v9) i10 v10) i11 v11) i12 v12) i13 v13) i14 v14)) w) : c.wp Hvaa.prog Q (mk n s) w := by
  have := h s
  rw [upd_self h1, upd_self h2, upd_self h3, upd_self h4, upd_self h5, upd_self h6, upd_self h7, upd_self h8, upd_self h9, upd_self h10, upd_self h11, upd_self h12, upd_self h13, upd_self h14] at this
  exact this
theorem fK14 {K : Act → World → Prop} (i1 i2 i3 i4 i5 i6 i7 i8 i9 i10 i11 i12 i13 i14 : Nat) {v1 v2 v3 v4 v5 v6 v7 v8 v9 v10 v11 v12 v13 v14 : Value} (h1 : s i1 = v1) (h2 : s i2 = v2) (h3 : s i3 = v3) (h4 : s i4 = v4) (h5 : s i5 = v5) (h6 : s i6 = v6) (h7 : s i7 = v7) (h8 : s i8 = v8) (h9 : s i9 = v9) (h10 : s i10 = v10) (h11 : s i11 = v11) (h12 : s i12 = v12) (h13 : s i13 = v13) (h14 : s i14 = v14) (h : ∀ g, K (mk n (upd (upd (upd (upd (upd (upd (upd (upd (upd (upd (upd (upd (upd (upd g i1 v1) i2 v2) i3 v3) i4 v4) i5 v5) i6 v6) i7 v7) i8 v8) i9 v9) i10 v10) i11 v11) i12 v12) i13 v13) i14 v14)) w) : K (mk n s) w := by
  have := h s
  rw [upd_self h1, upd_self h2, upd_self h3, upd_self h4, upd_self h5, upd_self h6, upd_self h7, upd_self h8, upd_self h9, upd_self h10, upd_self h11, upd_self h12, upd_self h13, upd_self h14] at this
  exact this
theorem fg15 (i1 i2 i3 i4 i5 i6 i7 i8 i9 i10 i11 i12 i13 i14 i15 : Nat) {v1 v2 v3 v4 v5 v6 v7 v8 v9 v10 v11 v12 v13 v14 v15 : Value} (h1 : s i1 = v1) (h2 : s i2 = v2) (h3 : s i3 = v3) (h4 : s i4 = v4) (h5 : s i5 = v5) (h6 : s i6 = v6) (h7 : s i7 = v7) (h8 : s i8 = v8) (h9 : s i9 = v9) (h10 : s i10 = v10) (h11 : s i11 = v11) (h12 : s i12 = v12) (h13 : s i13 = v13) (h14 : s i14 = v14) (h15 : s i15 = v15) (h : ∀ g, c.wp Hvaa.prog Q (mk n (upd (upd (upd (upd (upd (upd (upd (upd (upd (upd (upd (upd (upd (upd (upd g i1 v1) i2 v2) i3 v3) i4 v4) i5 v5) i6 v6) i7 v7) i8 v8) i9 v9) i10 v10) i11 v11) i12 v12) i13 v13) i14 v14) i15 v15)) w) : c.wp Hvaa.prog Q (mk n s) w := by
  have := h s
  rw [upd_self h1, upd_self h2, upd_self h3, upd_self h4, upd_self h5, upd_self h6, upd_self h7, upd_self h8, upd_self h9, upd_self h10, upd_self h11, upd_self h12, upd_self h13, upd_self h14, upd_self h15] at this
  exact this
theorem fK15 {K : Act → World → Prop} (i1 i2 i3 i4 i5 i6 i7 i8 i9 i10 i11 i12 i13 i14 i15 : Nat) {v1 v2 v3 v4 v5 v6 v7 v8 v9 v10 v11 v12 v13 v14 v15 : Value} (h1 : s i1 = v1) (h2 : s i2 = v2) (h3 : s i3 = v3) (h4 : s i4 = v4) (h5 : s i5 = v5) (h6 : s i6 = v6) (h7 : s i7 = v7) (h8 : s i8 = v8) (h9 : s i9 = v9) (h10 : s i10 = v10) (h11 : s i11 = v11) (h12 : s i12 = v12) (h13 : s i13 = v13) (h14 : s i14 = v14) (h15 : s i15 = v15) (h : ∀ g, K (mk n (upd (upd (upd (upd (upd (upd (upd (upd (upd (upd (upd (upd (upd (upd (upd g i1 v1) i2 v2) i3 v3) i4 v4) i5 v5) i6 v6) i7 v7) i8 v8) i9 v9) i10 v10) i11 v11) i12 v12) i13 v13) i14 v14) i15 v15)) w) : K (mk n s) w := by
  have := h s
  rw [upd_self h1, upd_self h2, upd_self h3, upd_self h4, upd_self h5, upd_self h6, upd_self h7, upd_self h8, upd_self h9, upd_self h10, upd_self h11, upd_self h12, upd_self h13, upd_self h14, upd_self h15] at this
  exact this
theorem fg16 (i1 i2 i3 i4 i5 i6 i7 i8 i9 i10 i11 i12 i13 i14 i15 i16 : Nat) {v1 v2 v3 v4 v5 v6 v7 v8 v9 v10 v11 v12 v13 v14 v15 v16 : Value} (h1 : s i1 = v1) (h2 : s i2 = v2) (h3 : s i3 = v3) (h4 : s i4 = v4) (h5 : s i5 = v5) (h6 : s i6 = v6) (h7 : s i7 = v7) (h8 : s i8 = v8) (h9 : s i9 = v9) (h10 : s i10 = v10) (h11 : s i11 = v11) (h12 : s i12 = v12) (h13 : s i13 = v13) (h14 : s i14 = v14) (h15 : s i15 = v15) (h16 : s i16 = v16) (h : ∀ g, c.wp Hvaa.prog Q (mk n (upd (upd (upd (upd (upd (upd (upd (upd (upd (upd (upd (upd (upd (upd (upd (upd g i1 v1) i2 v2) i3 v3) i4 v4) i5 v5) i6 v6) i7 v7) i8 v8) i9 v9) i10 v10) i11 v11) i12 v12) i13 v13) i14 v14) i15 v15) i16 v16)) w) : c.wp Hvaa.prog Q (mk n s) w := by
  have := h s
  rw [upd_self h1, upd_self h2, upd_self h3, upd_self h4, upd_self h5, upd_self h6, upd_self h7, upd_self h8, upd_self h9, upd_self h10, upd_self h11, upd_self h12, upd_self h13, upd_self h14, upd_self h15, upd_self h16] at this
  exact this
theorem fK16 {K : Act → World → Prop} (i1 i2 i3 i4 i5 i6 i7 i8 i9 i10 i11 i12 i13 i14 i15 i16 : Nat) {v1 v2 v3 v4 v5 v6 v7 v8 v9 v10 v11 v12 v13 v14 v15 v16 : Value} (h1 : s i1 = v1) (h2 : s i2 = v2) (h3 : s i3 = v3) (h4 : s i4 = v4) (h5 : s i5 = v5) (h6 : s i6 = v6) (h7 : s i7 = v7) (h8 : s i8 = v8) (h9 : s i9 = v9) (h10 : s i10 = v10) (h11 : s i11 = v11) (h12 : s i12 = v12) (h13 : s i13 = v13) (h14 : s i14 = v14) (h15 : s i15 = v15) (h16 : s i16 = v16) (h : ∀ g, K (mk n (upd (upd (upd (upd (upd (upd (upd (upd (upd (upd (upd (upd (upd (upd (upd (upd g i1 v1) i2 v2) i3 v3) i4 v4) i5 v5) i6 v6) i7 v7) i8 v8) i9 v9) i10 v10) i11 v11) i12 v12) i13 v13) i14 v14) i15 v15) i16 v16)) w) : K (mk n s) w := by
  have := h s
  rw [upd_self h1, upd_self h2, upd_self h3, upd_self h4, upd_self h5, upd_self h6, upd_self h7, upd_self h8, upd_self h9, upd_self h10, upd_self h11, upd_self h12, upd_self h13, upd_self h14, upd_self h15, upd_self h16] at this
  exact this
theorem fg17 (i1 i2 i3 i4 i5 i6 i7 i8 i9 i10 i11 i12 i13 i14 i15 i16 i17 : Nat) {v1 v2 v3 v4 v5 v6 v7 v8 v9 v10 v11 v12 v13 v14 v15 v16 v17 : Value} (h1 : s i1 = v1) (h2 : s i2 = v2) (h3 : s i3 = v3) (h4 : s i4 = v4) (h5 : s i5 = v5) (h6 : s i6 = v6) (h7 : s i7 = v7) (h8 : s i8 = v8) (h9 : s i9 = v9) (h10 : s i10 = v10) (h11 : s i11 = v11) (h12 : s i12 = v12) (h13 : s i13 = v13) (h14 : s i14 = v14) (h15 : s i15 = v15) (h16 : s i16 = v16) (h17 : s i17 = v17) (h : ∀ g, c.wp Hvaa.prog Q (mk n (upd (upd (upd (upd (upd (upd (upd (upd (upd (upd (upd (upd (upd (upd (upd (upd (upd g i1 v1) i2 v2) i3 v3) i4 v4) i5 v5) i6 v6) i7 v7) i8 v8) i9 v9) i10 v10) i11 v11) i12 v12) i13 v13) i14 v14) i15 v15) i16 v16) i17 v17)) w) : c.wp Hvaa.prog Q (mk n s) w := by
  have := h s
  rw [upd_self h1, upd_self h2, upd_self h3, upd_self h4, upd_self h5, upd_self h6, upd_self h7, upd_self h8, upd_self h9, upd_self h10, upd_self h11, upd_self h12, upd_self h13, upd_self h14, upd_self h15, upd_self h16, upd_self h17] at this
  exact this
theorem fK17 {K : Act → World → Prop} (i1 i2 i3 i4 i5 i6 i7 i8 i9 i10 i11 i12 i13 i14 i15 i16 i17 : Nat) {v1 v2 v3 v4 v5 v6 v7 v8 v9 v10 v11 v12 v13 v14 v15 v16 v17 : Value} (h1 : s i1 = v1) (h2 : s i2 = v2) (h3 : s i3 = v3) (h4 : s i4 = v4) (h5 : s i5 = v5) (h6 : s i6 = v6) (h7 : s i7 = v7) (h8 : s i8 = v8) (h9 : s i9 = v9) (h10 : s i10 = v10) (h11 : s i11 = v11) (h12 : s i12 = v12) (h13 : s i13 = v13) (h14 : s i14 = v14) (h15 : s i15 = v15) (h16 : s i16 = v16) (h17 : s i17 = v17) (h : ∀ g, K (mk n (upd (upd (upd (upd (upd (upd (upd (upd (upd (upd (upd (upd (upd (upd (upd (upd (upd g i1 v1) i2 v2) i3 v3) i4 v4) i5 v5) i6 v6) i7 v7) i8 v8) i9 v9) i10 v10) i11 v11) i12 v12) i13 v13) i14 v14) i15 v15) i16 v16) i17 v17)) w) : K (mk n s) w := by
  have := h s
  rw [upd_self h1, upd_self h2, upd_self h3, upd_self h4, upd_self h5, upd_self h6, upd_self h7, upd_self h8, upd_self h9, upd_self h10, upd_self h11, upd_self h12, upd_self h13, upd_self h14, upd_self h15, upd_self h16, upd_self h17] at this
  exact this
theorem fg18 (i1 i2 i3 i4 i5 i6 i7 i8 i9 i10 i11 i12 i13 i14 i15 i16 i17 i18 : Nat) {v1 v2 v3 v4 v5 v6 v7 v8 v9 v10 v11 v12 v13 v14 v15 v16 v17 v18 : Value} (h1 : s i1 = v1) (h2 : s i2 = v2) (h3 : s i3 = v3) (h4 : s i4 = v4) (h5 : s i5 = v5) (h6 : s i6 = v6) (h7 : s i7 = v7) (h8 : s i8 = v8) (h9 : s i9 = v9) (h10 : s i10 = v10) (h11 : s i11 = v11) (h12 : s i12 = v12) (h13 : s i13 = v13) (h14 : s i14 = v14) (h15 : s i15 = v15) (h16 : s i16 = v16) (h17 : s i17 = v17) (h18 : s i18 = v18) (h : ∀ g, c.wp Hvaa.prog Q (mk n (upd (upd (upd (upd (upd (upd (upd (upd (upd (upd (upd (upd (upd (upd (upd (upd (upd (upd g i1 v1) i2 v2) i3 v3) i4 v4) i5 v5) i6 v6) i7 v7) i8 v8) i9 v9) i10 v10) i11 v11) i12 v12) i13 v13) i14 v14) i15 v15) i16 v16) i17 v17) i18 v18)) w) : c.wp Hvaa.prog Q (mk n s) w := by
  have := h s
  rw [upd_self h1, upd_self h2, upd_self h3, upd_self h4, upd_self h5, upd_self h6, upd_self h7, upd_self h8, upd_self h9, upd_self h10, upd_self h11, upd_self h12, upd_self h13, upd_self h14, upd_self h15, upd_self h16, upd_self h17, upd_self h18] at this
  exact this
theorem fK18 {K : Act → World → Prop} (i1 i2 i3 i4 i5 i6 i7 i8 i9 i10 i11 i12 i13 i14 i15 i16 i17 i18 : Nat) {v1 v2 v3 v4 v5 v6 v7 v8 v9 v10 v11 v12 v13 v14 v15 v16 v17 v18 : Value} (h1 : s i1 = v1) (h2 : s i2 = v2) (h3 : s i3 = v3) (h4 : s i4 = v4) (h5 : s i5 = v5) (h6 : s i6 = v6) (h7 : s i7 = v7) (h8 : s i8 = v8) (h9 : s i9 = v9) (h10 : s i10 = v10) (h11 : s i11 = v11) (h12 : s i12 = v12) (h13 : s i13 = v13) (h14 : s i14 = v14) (h15 : s i15 = v15) (h16 : s i16 = v16) (h17 : s i17 = v17) (h18 : s i18 = v18) (h : ∀ g, K (mk n (upd (upd (upd (upd (upd (upd (upd (upd (upd (upd (upd (upd (upd (upd (upd (upd (upd (upd g i1 v1) i2 v2) i3 v3) i4 v4) i5 v5) i6 v6) i7 v7) i8 v8) i9 v9) i10 v10) i11 v11) i12 v12) i13 v13) i14 v14) i15 v15) i16 v16) i17 v17) i18 v18)) w) : K (mk n s) w := by
  have := h s
  rw [upd_self h1, upd_self h2, upd_self h3, upd_self h4, upd_self h5, upd_self h6, upd_self h7, upd_self h8, upd_self h9, upd_self h10, upd_self h11, upd_self h12, upd_self h13, upd_self h14, upd_self h15, upd_self h16, upd_self h17, upd_self h18] at this
  exact this
theorem fg19 (i1 i2 i3 i4 i5 i6 i7 i8 i9 i10 i11 i12 i13 i14 i15 i16 i17 i18 i19 : Nat) {v1 v2 v3 v4 v5 v6 v7 v8 v9 v10 v11 v12 v13 v14 v15 v16 v17 v18 v19 : Value} (h1 : s i1 = v1) (h2 : s i2 = v2) (h3 : s i3 = v3) (h4 : s i4 = v4) (h5 : s i5 = v5) (h6 : s i6 = v6) (h7 : s i7 = v7) (h8 : s i8 = v8) (h9 : s i9 = v9) (h10 : s i10 = v10) (h11 : s i11 = v11) (h12 : s i12 = v12) (h13 : s i13 = v13) (h14 : s i14 = v14) (h15 : s i15 = v15) (h16 : s i16 = v16) (h17 : s i17 = v17) (h18 : s i18 = v18) (h19 : s i19 = v19) (h : ∀ g, c.wp Hvaa.prog Q (mk n (upd (upd (upd (upd (upd (upd (upd (upd (upd (upd (upd (upd (upd (upd (upd (upd (upd (upd (upd g i1 v1) i2 v2) i3 v3) i4 v4) i5 v5) i6 v6) i7 v7) i8 v8) i9 v9) i10 v10) i11 v11) i12 v12) i13 v13) i14 v14) i15 v15) i16 v16) i17 v17) i18 v18) i19 v19)) w) : c.wp Hvaa.prog Q (mk n s) w := by
  have := h s
  rw [upd_self h1, upd_self h2, upd_self h3, upd_self h4, upd_self h5, upd_self h6, upd_self h7, upd_self h8, upd_self h9, upd_self h10, upd_self h11, upd_self h12, upd_self h13, upd_self h14, upd_self h15, upd_self h16, upd_self h17, upd_self h18, upd_self h19] at this
  exact this
theorem fK19 {K : Act → World → Prop} (i1 i2 i3 i4 i5 i6 i7 i8 i9 i10 i11 i12 i13 i14 i15 i16 i17 i18 i19 : Nat) {v1 v2 v3 v4 v5 v6 v7 v8 v9 v10 v11 v12 v13 v14 v15 v16 v17 v18 v19 : Value} (h1 : s i1 = v1) (h2 : s i2 = v2) (h3 : s i3 = v3) (h4 : s i4 = v4) (h5 : s i5 = v5) (h6 : s i6 = v6) (h7 : s i7 = v7) (h8 : s i8 = v8) (h9 : s i9 = v9) (h10 : s i10 = v10) (h11 : s i11 = v11) (h12 : s i12 = v12) (h13 : s i13 = v13) (h14 : s i14 = v14) (h15 : s i15 = v15) (h16 : s i16 = v16) (h17 : s i17 = v17) (h18 : s i18 = v18) (h19 : s i19 = v19) (h : ∀ g, K (mk n (upd (upd (upd (upd (upd (upd (upd (upd (upd (upd (upd (upd (upd (upd (upd (upd (upd (upd (upd g i1 v1) i2 v2) i3 v3) i4 v4) i5 v5) i6 v6) i7 v7) i8 v8) i9 v9) i10 v10) i11 v11) i12 v12) i13 v13) i14 v14) i15 v15) i16 v16) i17 v17) i18 v18) i19 v19)) w) : K (mk n s) w := by
  have := h s
  rw [upd_self h1, upd_self h2, upd_self h3, upd_self h4, upd_self h5, upd_self h6, upd_self h7, upd_self h8, upd_self h9, upd_self h10, upd_self h11, upd_self h12, upd_self h13, upd_self h14, upd_self h15, upd_self h16, upd_self h17, upd_self h18, upd_self h19] at this
  exact this
theorem fg20 (i1 i2 i3 i4 i5 i6 i7 i8 i9 i10 i11 i12 i13 i14 i15 i16 i17 i18 i19 i20 : Nat) {v1 v2 v3 v4 v5 v6 v7 v8 v9 v10 v11 v12 v13 v14 v15 v16 v17 v18 v19 v20 : Value} (h1 : s i1 = v1) (h2 : s i2 = v2) (h3 : s i3 = v3) (h4 : s i4 = v4) (h5 : s i5 = v5) (h6 : s i6 = v6) (h7 : s i7 = v7) (h8 : s i8 = v8) (h9 : s i9 = v9) (h10 : s i10 = v10) (h11 : s i11 = v11) (h12 : s i12 = v12) (h13 : s i13 = v13) (h14 : s i14 = v14) (h15 : s i15 = v15) (h16 : s i16 = v16) (h17 : s i17 = v17) (h18 : s i18 = v18) (h19 : s i19 = v19) (h20 : s i20 = v20) (h : ∀ g, c.wp Hvaa.prog Q (mk n (upd (upd (upd (upd (upd (upd (upd (upd (upd (upd (upd (upd (upd (upd (upd (upd (upd (upd (upd (upd g i1 v1) i2 v2) i3 v3) i4 v4) i5 v5) i6 v6) i7 v7) i8 v8) i9 v9) i10 v10) i11 v11) i12 v12) i13 v13) i14 v14) i15 v15) i16 v16) i17 v17) i18 v18) i19 v19) i20 v20)) w) : c.wp Hvaa.prog Q (mk n s) w := by
  have := h s
  rw [upd_self h1, upd_self h2, upd_self h3, upd_self h4, upd_self h5, upd_self h6, upd_self h7, upd_self h8, upd_self h9, upd_self h10, upd_self h11, upd_self h12, upd_self h13, upd_self h14, upd_self h15, upd_self h16, upd_self h17, upd_self h18, upd_self h19, upd_self h20] at this
  exact this
theorem fK20 {K : Act → World → Prop} (i1 i2 i3 i4 i5 i6 i7 i8 i9 i10 i11 i12 i13 i14 i15 i16 i17 i18 i19 i20 : Nat) {v1 v2 v3 v4 v5 v6 v7 v8 v9 v10 v11 v12 v13 v14 v15 v16 v17 v18 v19 v20 : Value} (h1 : s i1 = v1) (h2 : s i2 = v2) (h3 : s i3 = v3) (h4 : s i4 = v4) (h5 : s i5 = v5) (h6 : s i6 = v6) (h7 : s i7 = v7) (h8 : s i8 = v8) (h9 : s i9 = v9) (h10 : s i10 = v10) (h11 : s i11 = v11) (h12 : s i12 = v12) (h13 : s i13 = v13) (h14 : s i14 = v14) (h15 : s i15 = v15) (h16 : s i16 = v16) (h17 : s i17 = v17) (h18 : s i18 = v18) (h19 : s i19 = v19) (h20 : s i20 = v20) (h : ∀ g, K (mk n (upd (upd (upd (upd (upd (upd (upd (upd (upd (upd (upd (upd (upd (upd (upd (upd (upd (upd (upd (upd g i1 v1) i2 v2) i3 v3) i4 v4) i5 v5) i6 v6) i7 v7) i8 v8) i9 v9) i10 v10) i11 v11) i12 v12) i13 v13) i14 v14) i15 v15) i16 v16) i17 v17) i18 v18) i19 v19) i20 v20)) w) : K (mk n s) w := by
  have := h s
  rw [upd_self h1, upd_self h2, upd_self h3, upd_self h4, upd_self h5, upd_self h6, upd_self h7, upd_self h8, upd_self h9, upd_self h10, upd_self h11, upd_self h12, upd_self h13, upd_self h14, upd_self h15, upd_self h16, upd_self h17, upd_self h18, upd_self h19, upd_self h20] at this
  exact this
theorem fK0 {K : Act → World → Prop} (h : ∀ g, K (mk n g) w) : K (mk n s) w := h s
end
end Go.Proofs.YgvaawGreat
