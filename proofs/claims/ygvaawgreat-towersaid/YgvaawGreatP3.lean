import Derived.Test.YgvaawGreatP2
import Derived.Test.YgvaawGreatW12
set_option maxRecDepth 100000
set_option linter.unusedSimpArgs false
set_option linter.unusedVariables false
namespace Go.Proofs.YgvaawGreat
open Go
/-! What holds while a transaction runs, and that a step keeps it. -/
def gm (f : YF) : Nat := f.gas + memN (f.mem.length / 32)
def sumG (l : List YF) : Nat := (l.map gm).sum
def sumg (l : List YF) : Nat := (l.map (fun f => f.gas)).sum
def msr (s : YSt) : Nat := 8 * sumg s.frames + s.frames.length
structure PF (p : YF) : Prop where
  stk : p.stack.length < 64
  pc : p.pc < 512
  out : 0 < p.outLen → p.outOff + p.outLen ≤ p.mem.length
structure IB (s : YSt) : Prop where
  st : s.start.Pairwise Lt3
  snz : ∀ x ∈ s.start, x.2.2 ≠ 0
  now : WI s.start (s.limit * s.price) s.now
  ret : s.ret.length ≤ 717280
  ap : s.applied ≤ 4
  org : s.origin < A160
  prc : s.price < W256
  lim : s.limit ≤ 1048576
  bf : s.env.baseFee ≤ s.price
structure IS (s : YSt) (low : List YF) (f : YF) : Prop where
  b : IB s
  ph : s.phase = 1
  sv : ∀ g ∈ low ++ [f], WI s.start (s.limit * s.price) g.saved
  par : ∀ p ∈ low, PF p
  m32 : ∀ g ∈ low ++ [f], g.mem.length % 32 = 0
  gas : sumG (low ++ [f]) ≤ s.limit
structure IE (s : YSt) : Prop where
  b : IB s
  ph : s.phase = 2
  fr : s.frames = []
  sts : s.status ≤ 12
  left : s.left ≤ s.limit
def IT (s : YSt) : Prop := (∃ low f, s.frames = low ++ [f] ∧ IS s low f) ∨ IE s
theorem sumG_app (a b : List YF) : sumG (a ++ b) = sumG a + sumG b := by simp [sumG]
theorem sumG_one (f : YF) : sumG [f] = gm f := by simp [sumG]
theorem sumg_app (a b : List YF) : sumg (a ++ b) = sumg a + sumg b := by simp [sumg]
theorem sumg_one (f : YF) : sumg [f] = f.gas := by simp [sumg]
theorem mem0 : memN 0 = 0 := rfl
theorem memN_mono {a b : Nat} (h : a ≤ b) : memN a ≤ memN b := by
  unfold memN
  have := Nat.div_le_div_right (c := 512) (Nat.mul_le_mul h h)
  omega
theorem mem_bound {n : Nat} (h : memN n ≤ 1048576) : n ≤ 22415 := by
  refine Nat.le_of_not_lt fun h9 => ?_
  have h1 : memN 22416 ≤ memN n := memN_mono h9
  have h2 : 1048576 < memN 22416 := by decide
  omega
theorem gm_mem {f : YF} (h : gm f ≤ 1048576) (hm : f.mem.length % 32 = 0) : f.mem.length ≤ 717280 := by
  have := mem_bound (n := f.mem.length / 32) (by unfold gm at h; omega)
  omega
section
variable {s s' : YSt} {f u p : YF} {low : List YF} {q : Nat} {l : List Nat} {W : YWorld} {st : List (Nat × Nat × Nat)} {hold : Nat}
theorem IB.eq (h : IB s) (e1 : s'.start = s.start) (e2 : s'.limit = s.limit) (e3 : s'.price = s.price) (e4 : s'.applied = s.applied) (e5 : s'.origin = s.origin) (e6 : s'.env = s.env) (hW : WI s.start (s.limit * s.price) s'.now) (hr : s'.ret.length ≤ 717280) : IB s' :=
  ⟨by rw [e1]; exact h.st, by rw [e1]; exact h.snz, by rw [e1, e2, e3]; exact hW, hr, by rw [e4]; exact h.ap, by rw [e5]; exact h.org, by rw [e3]; exact h.prc, by rw [e2]; exact h.lim, by rw [e6, e3]; exact h.bf⟩
theorem lv_gas : lvGas u q l ≤ u.gas := by
  unfold lvGas depN
  repeat' split
  all_goals first | exact Nat.zero_le _ | exact Nat.le_refl _ | exact Nat.sub_le _ _
theorem lv_st (hq : q ≤ 9) : lvSt u q l ≤ 12 := by
  unfold lvSt depN
  repeat' split
  all_goals first | omega | (show (_ : Nat) ≤ _; decide)
theorem lv_out : (lvOut u q l).length ≤ l.length := by
  unfold lvOut
  split
  · exact Nat.zero_le _
  · exact Nat.le_refl _
theorem wr_len (m : List Nat) (x : Nat) (l : List Nat) : (wrN m x l).length = m.length := by
  unfold wrN
  split
  · simp only [List.length_append, List.length_take, List.length_drop]
    omega
  · rfl
theorem cp_len (m : List Nat) (d : Nat) (l : List Nat) (x y : Nat) : (cpN m d l x y).length = m.length := by
  unfold cpN
  split
  · rfl
  · exact wr_len _ _ _
theorem lv_mem : (lvMem p u q l).length = p.mem.length := by
  unfold lvMem
  split
  · exact wr_len _ _ _
  · rfl
theorem WI.lv (h : WI st hold s.now) (hu : WI st hold u.saved) : WI st hold (lvW s u q l) := by
  unfold lvW
  repeat' split
  · exact h.code _ _
  · exact h
  · exact hu
theorem lv_it (hb : IB s) (hph : s.phase = 1) (hsv : ∀ g ∈ low ++ [u], WI s.start (s.limit * s.price) g.saved) (hpar : ∀ p ∈ low, PF p) (hm : ∀ g ∈ low, g.mem.length % 32 = 0) (hg : sumG low + u.gas ≤ s.limit) (hl : l.length ≤ 717280) (hq : q ≤ 9) : IT (lvY s u q l low) ∧ ((lvY s u q l low).phase = 1 → msr (lvY s u q l low) ≤ 8 * (sumg low + u.gas) + low.length) := by
  have hW : WI s.start (s.limit * s.price) (lvW s u q l) := hb.now.lv (hsv u (by simp))
  have ho : (lvOut u q l).length ≤ 717280 := Nat.le_trans lv_out hl
  have hgs := lv_gas (u := u) (q := q) (l := l)
  rcases List.eq_nil_or_concat low with e | ⟨lo, p, e⟩
  · subst e
    have e1 : lvY s u q l [] = { lvS1 s u q l with frames := [] } := rfl
    rw [e1]
    refine ⟨.inr ⟨hb.eq rfl rfl rfl rfl rfl rfl hW ho, rfl, rfl, lv_st hq, ?_⟩, fun h => absurd h (by show ¬ 2 = 1; decide)⟩
    show lvGas u q l ≤ s.limit
    have : sumG [] = 0 := rfl
    omega
  · rw [List.concat_eq_append] at e
    subst e
    have e1 : lvY s u q l (lo ++ [p]) = { lvS2 s u q l with frames := lo ++ [lvP p u q l] } := by
      unfold lvY
      rw [List.getLast?_concat, List.dropLast_concat]
    rw [e1]
    have hpl : (lvP p u q l).gas = p.gas + lvGas u q l := rfl
    have hml : (lvP p u q l).mem.length = p.mem.length := lv_mem
    have hgm : gm (lvP p u q l) ≤ gm p + u.gas := by
      unfold gm
      rw [hml, hpl]
      omega
    rw [sumG_app, sumG_one] at hg
    refine ⟨.inl ⟨lo, lvP p u q l, rfl, hb.eq rfl rfl rfl rfl rfl rfl hW ho, hph, fun g hg9 => ?_, fun g hg9 => hpar g (List.mem_append_left _ hg9), fun g hg9 => ?_, ?_⟩, fun _ => ?_⟩
    · show WI s.start (s.limit * s.price) g.saved
      rcases List.mem_append.1 hg9 with h | h
      · exact hsv g (List.mem_append_left _ (List.mem_append_left _ h))
      · rw [List.mem_singleton.1 h]
        exact hsv p (List.mem_append_left _ (by simp))
    · rcases List.mem_append.1 hg9 with h | h
      · exact hm g (List.mem_append_left _ h)
      · rw [List.mem_singleton.1 h, hml]
        exact hm p (by simp)
    · show sumG (lo ++ [lvP p u q l]) ≤ s.limit
      rw [sumG_app, sumG_one]
      omega
    · show 8 * sumg (lo ++ [lvP p u q l]) + (lo ++ [lvP p u q l]).length ≤ 8 * (sumg (lo ++ [p]) + u.gas) + (lo ++ [p]).length
      rw [sumg_app, sumg_one, sumg_app, sumg_one, List.length_append, List.length_append, hpl]
      simp only [List.length_singleton]
      omega
theorem WI.ent (h : WI st hold W) (c : YF) : WI st hold (entW W c) := by
  have h1 : WI st hold { W with accts := entA1 W c } := by
    unfold entA1
    split
    · exact h.non _ _
    · exact h
  have h2 : WI st hold { W with accts := entA W c } := by
    unfold entA
    split
    · exact h1.move _ _ _
    · exact h1
  unfold entW
  split
  · exact h2.made c.self
  · exact h2
theorem ent_is {c : YF} {low2 : List YF} (hb : IB s) (hph : s.phase = 1) (hsv : ∀ g ∈ low2, WI s.start (s.limit * s.price) g.saved) (hpar : ∀ p ∈ low2, PF p) (hm : ∀ g ∈ low2, g.mem.length % 32 = 0) (hg : sumG low2 + c.gas ≤ s.limit) (hcm : c.mem = []) (hf : s.frames = low2) : IT (entY s c) ∧ msr (entY s c) = 8 * (sumg low2 + c.gas) + low2.length + 1 := by
  subst hf
  refine ⟨.inl ⟨s.frames, { c with saved := s.now }, rfl, hb.eq rfl rfl rfl rfl rfl rfl (hb.now.ent c) (Nat.zero_le _), hph, fun g hg9 => ?_, hpar, fun g hg9 => ?_, ?_⟩, ?_⟩
  · show WI s.start (s.limit * s.price) g.saved
    rcases List.mem_append.1 hg9 with h | h
    · exact hsv g h
    · rw [List.mem_singleton.1 h]
      exact hb.now
  · rcases List.mem_append.1 hg9 with h | h
    · exact hm g h
    · rw [List.mem_singleton.1 h]
      show c.mem.length % 32 = 0
      rw [hcm]
      rfl
  · show sumG (s.frames ++ [_]) ≤ s.limit
    rw [sumG_app, sumG_one]
    show sumG s.frames + (c.gas + memN (c.mem.length / 32)) ≤ s.limit
    rw [hcm]
    exact hg
  · show 8 * sumg (s.frames ++ [_]) + (s.frames ++ [_]).length = _
    rw [sumg_app, sumg_one, List.length_append]
    rfl
/-- what a passed check has paid -/
structure Paid (s : YSt) (f : YF) (q : Nat) : Prop where
  cost : costN s f q ≤ f.gas
  eq : gm (stF s f) + bareN s f q = gm f
  gas : (stF s f).gas + bareN s f q ≤ f.gas
  m32 : (stF s f).mem.length % 32 = 0
  reach : yReach f.stack q ≤ (stF s f).mem.length
theorem ref_ok (h : (refN s f q).1 = 0) : refA s f q = 0 ∧ refB s f q = 0 ∧ (refN s f q).2 = costN s f q := by
  unfold refN at h ⊢
  by_cases e : refA s f q = 0
  · rw [if_pos e] at h ⊢
    exact ⟨e, h, rfl⟩
  · rw [if_neg e] at h
    exact absurd h e
theorem ref_le (h : (refN s f q).1 = 0) : costN s f q ≤ f.gas := by
  obtain ⟨_, h2, _⟩ := ref_ok h
  unfold refB at h2
  refine Nat.le_of_not_lt fun h9 => ?_
  rw [if_pos h9] at h2
  cases h2
theorem paid (h : (refN s f (opcN f)).1 = 0) (hm : f.mem.length % 32 = 0) : Paid s f (opcN f) := by
  have hc := ref_le h
  obtain ⟨_, _, h3⟩ := ref_ok h
  have hsg : (stF s f).gas = f.gas - costN s f (opcN f) := by show f.gas - _ = _; rw [h3]
  have hsm : (stF s f).mem = growN f.mem (yReach f.stack (opcN f)) := rfl
  have hb := bare_le s f (opcN f)
  refine ⟨hc, ?_, by omega, ?_, by rw [hsm]; exact grow_ge hm⟩
  · unfold gm
    rw [hsg, hsm]
    unfold growN
    unfold costN at hc hb ⊢
    by_cases e : wordsN (yReach f.stack (opcN f)) ≤ f.mem.length / 32
    · rw [if_pos e] at hc hb ⊢
      rw [if_neg (by omega)]
      omega
    · rw [if_neg e] at hc hb ⊢
      rw [if_pos (by omega)]
      have h1 : memN (f.mem.length / 32) ≤ memN (wordsN (yReach f.stack (opcN f))) := memN_mono (by omega)
      have h2 : (f.mem ++ List.replicate (32 * wordsN (yReach f.stack (opcN f)) - f.mem.length) 0).length / 32 = wordsN (yReach f.stack (opcN f)) := by
        rw [List.length_append, List.length_replicate]
        omega
      rw [h2]
      omega
  · rw [hsm]
    unfold growN
    split
    · rw [List.length_append, List.length_replicate]
      omega
    · exact hm
theorem pos_ite {p : Prop} [Decidable p] {a b : Nat} (h1 : p → 1 ≤ a) (h2 : ¬ p → 1 ≤ b) : 1 ≤ if p then a else b := by
  by_cases h : p
  · rw [if_pos h]; exact h1 h
  · rw [if_neg h]; exact h2 h
theorem acc_pos (l : List Nat) (a : Nat) : 1 ≤ accessN l a := pos_ite (fun _ => by decide) (fun _ => by decide)
theorem bare_pos (h0 : q ≠ 0) (h1 : q ≠ 243) (h2 : q ≠ 253) : 1 ≤ bareN s f q := by
  unfold bareN
  refine pos_ite (fun _ => by decide) fun _ => pos_ite (fun _ => by decide) fun _ => pos_ite (fun _ => by decide) fun _ => pos_ite (fun _ => by decide) fun _ => pos_ite (fun _ => by decide) fun _ => pos_ite (fun _ => by decide) fun _ => pos_ite (fun h => by omega) fun _ => pos_ite (fun _ => by unfold expN; omega) fun _ => pos_ite (fun _ => by omega) fun _ => pos_ite (fun _ => by omega) fun _ => pos_ite (fun _ => acc_pos _ _) fun _ => pos_ite (fun _ => by have := acc_pos s.now.warmA (yT f 0); omega) fun _ => pos_ite (fun _ => by omega) fun _ => pos_ite (fun _ => pos_ite (fun _ => by decide) (fun _ => by decide)) fun _ => pos_ite (fun _ => ?_) fun _ => pos_ite (fun _ => by decide) fun _ => pos_ite (fun _ => by unfold dCost; omega) fun _ => pos_ite (fun _ => ?_) (fun _ => by decide)
  · unfold sCost sBase
    refine Nat.le_trans (pos_ite (fun _ => by decide) fun _ => pos_ite (fun _ => by decide) (fun _ => by decide)) (Nat.le_add_right _ _)
  · unfold eCost
    have ha := acc_pos s.now.warmA (yT f 1)
    exact pos_ite (fun _ => by omega) fun _ => pos_ite (fun _ => by omega) fun _ => pos_ite (fun _ => pos_ite (fun _ => by omega) (fun _ => by omega)) (fun _ => ha)
theorem rd_len' (m : List Nat) (x y : Nat) : (rdN m x y).length = y := by
  unfold rdN cutN
  split
  · rename_i h; rw [h]; rfl
  · simp only [List.length_append, List.length_take, List.length_drop, List.length_replicate]
    omega
theorem end_ge {a b r : Nat} (h : endN a b ≤ r) : b ≤ r := by
  unfold endN at h
  split at h
  · omega
  · omega
theorem end_ge2 {a b r : Nat} (h : endN a b ≤ r) (hb : 0 < b) : a + b ≤ r := by
  unfold endN at h
  rw [if_neg (by omega)] at h
  exact h
theorem pc_lt (hB : EFB f) (h0 : opcN f ≠ 0) : f.pc < 512 := by
  refine Classical.byContradiction fun h9 => h0 ?_
  unfold opcN
  have := hB.code
  rw [List.getElem?_eq_none (by omega)]
  rfl
/-- the world behind a plain step -/
theorem WI.pl (hb : IB s) (hlog : 160 ≤ q ∧ q ≤ 164 → opndN (argL f q) 1 ≤ 1048576) : WI s.start (s.limit * s.price) (plS s f q).now := by
  unfold plS
  split
  · unfold valS
    repeat' split
    · exact hb.now.warmA _
    · exact hb.now.warmS _ _
    · exact hb.now
  · unfold effS
    split
    · exact hb.now.warmA _
    · split
      · rename_i h
        split
        · exact WI.sto hb.st hb.snz hb.now (by rw [h]; rfl) (by rw [h]; rfl)
        · exact hb.now
      · split
        · exact hb.now.temps _ _ _
        · split
          · rename_i h
            refine hb.now.log _ ⟨?_, ?_⟩
            · show ((argL f q).drop 2).length ≤ 4
              have : tkN q ≤ 6 := by
                have h9 : ∀ x : Fin 5, tkN (160 + x.1) ≤ 6 := by decide
                have := h9 ⟨q - 160, by omega⟩
                rwa [show 160 + (q - 160) = q from by omega] at this
              unfold argL
              rw [List.length_drop, List.length_map, List.length_range]
              omega
            · show (rdN _ _ _).length ≤ _
              rw [rd_len']
              exact hlog h
          · exact hb.now
  · exact hb.now
theorem pl_ctx (s : YSt) (f : YF) (q : Nat) : (plS s f q).start = s.start ∧ (plS s f q).limit = s.limit ∧ (plS s f q).price = s.price ∧ (plS s f q).applied = s.applied ∧ (plS s f q).origin = s.origin ∧ (plS s f q).env = s.env ∧ (plS s f q).ret = s.ret ∧ (plS s f q).phase = s.phase := by
  unfold plS valS effS stoN
  repeat' split
  all_goals exact ⟨rfl, rfl, rfl, rfl, rfl, rfl, rfl, rfl⟩
theorem pl_mem (s : YSt) (f : YF) (q : Nat) : (plF s f q).mem.length = f.mem.length := by
  show (plM s f q).length = _
  unfold plM effM
  repeat' split
  all_goals first | rfl | exact cp_len _ _ _ _ _ | exact wr_len _ _ _
end
end Go.Proofs.YgvaawGreat
