import Derived.Test.YgvaawGreatP3
set_option maxRecDepth 100000
set_option linter.unusedSimpArgs false
set_option linter.unusedVariables false
namespace Go.Proofs.YgvaawGreat
open Go
/-! A step keeps what holds while a transaction runs, and lowers the measure. -/
section
variable {s s' : YSt} {f u p g : YF} {low : List YF} {q : Nat} {l : List Nat} {W : YWorld} {st : List (Nat × Nat × Nat)} {hold : Nat}
theorem refA_le : refA s f q ≤ 9 := by
  unfold refA
  repeat' split
  all_goals decide
theorem refB_le : refB s f q ≤ 9 := by
  unfold refB
  repeat' split
  all_goals decide
theorem ref_le9 : (refN s f q).1 ≤ 9 := by
  unfold refN
  split
  · exact refB_le
  · exact refA_le
theorem nr_len9 (hB : EFB f) : (nrN f.ntv f.input).length ≤ 717280 := by
  unfold nrN
  split
  · exact hB.input
  · split
    · rw [length_be]
      unfold lnV
      split
      · rename_i h
        unfold lnOk at h
        simp only [Bool.and_eq_true, decide_eq_true_eq] at h
        omega
      · exact Nat.zero_le _
    · exact Nat.zero_le _
theorem IS.gl (h : IS s low f) : sumG low + gm f ≤ s.limit := by
  have := h.gas
  rw [sumG_app, sumG_one] at this
  exact this
theorem IS.g0 (h : IS s low f) : sumG low + f.gas ≤ s.limit := by
  have := h.gl
  unfold gm at this
  omega
theorem IS.ml (h : IS s low f) : ∀ g ∈ low, g.mem.length % 32 = 0 := fun g hg => h.m32 g (List.mem_append_left _ hg)
theorem IS.mf (h : IS s low f) : f.mem.length % 32 = 0 := h.m32 f (by simp)
theorem IS.sf (h : IS s low f) : WI s.start (s.limit * s.price) f.saved := h.sv f (by simp)
theorem IS.sl (h : IS s low f) (hu : u.saved = f.saved) : ∀ g ∈ low ++ [u], WI s.start (s.limit * s.price) g.saved := fun g hg => by
  rcases List.mem_append.1 hg with h1 | h1
  · exact h.sv g (List.mem_append_left _ h1)
  · rw [List.mem_singleton.1 h1, hu]
    exact h.sf
theorem IS.fm (h : IS s low f) : f.mem.length ≤ 717280 := gm_mem (by have := h.gl; have := h.b.lim; omega) h.mf
theorem stF_len (h : IS s low f) (hr : (refN s f (opcN f)).1 = 0) : (stF s f).mem.length ≤ 717280 := by
  have hp := paid hr h.mf
  refine gm_mem ?_ hp.m32
  have := h.gl
  have := h.b.lim
  have := hp.eq
  omega
/-- the same with another top frame, and another world -/
theorem IS.top (h : IS s low f) (hb : IB s') (e1 : s'.start = s.start) (e2 : s'.limit = s.limit) (e3 : s'.price = s.price) (e4 : s'.phase = s.phase) (hu : u.saved = f.saved) (hm : u.mem.length % 32 = 0) (hg : gm u ≤ gm f) : IS s' low u := by
  refine ⟨hb, e4.trans h.ph, ?_, h.par, fun g hg => ?_, ?_⟩
  · rw [e1, e2, e3]
    exact h.sl hu
  · rcases List.mem_append.1 hg with h1 | h1
    · exact h.ml g h1
    · rw [List.mem_singleton.1 h1]
      exact hm
  · rw [sumG_app, sumG_one, e2]
    have := h.gl
    omega
def msr0 (low : List YF) (f : YF) : Nat := 8 * (sumg low + f.gas) + low.length + 1
theorem msr_top {low : List YF} {u : YF} (hs : s.frames = low ++ [u]) : msr s = 8 * (sumg low + u.gas) + low.length + 1 := by
  unfold msr
  rw [hs, sumg_app, sumg_one, List.length_append]
  rfl
theorem IS.lv (h : IS s low f) (hs : s' = { s with now := s'.now }) (hW : WI s.start (s.limit * s.price) s'.now) (hu : u.saved = f.saved) (hug : u.gas ≤ f.gas) (hl : l.length ≤ 717280) (hq : q ≤ 9) : IT (lvY s' u q l low) ∧ ((lvY s' u q l low).phase = 1 → msr (lvY s' u q l low) < msr0 low f) := by
  have h0 := h.g0
  have e1 : s'.start = s.start := by rw [hs]
  have e2 : s'.limit = s.limit := by rw [hs]
  have e3 : s'.price = s.price := by rw [hs]
  have e4 : s'.phase = s.phase := by rw [hs]
  have hb : IB s' := h.b.eq e1 e2 e3 (by rw [hs]) (by rw [hs]) (by rw [hs]) hW (by rw [hs]; exact h.b.ret)
  have key := lv_it (s := s') (u := u) (low := low) (q := q) (l := l) hb (e4.trans h.ph) (by rw [e1, e2, e3]; exact h.sl hu) h.par h.ml (by rw [e2]; omega) hl hq
  refine ⟨key.1, fun h9 => ?_⟩
  have := key.2 h9
  unfold msr0
  omega
theorem WI.des (h : WI st hold s.now) : WI st hold (desS s f).now := by
  have h1 : WI st hold { s.now with warmA := withA s.now.warmA (desT f), accts := desA s f } := by
    unfold desA
    split
    · exact (h.warmA _).move _ _ _
    · exact h.warmA _
  unfold desS
  show WI st hold { s.now with warmA := withA s.now.warmA (desT f), accts := desA s f, gone := if f.self ∈ s.now.made then withA s.now.gone f.self else s.now.gone }
  split
  · exact h1.gone _
  · exact h1
theorem bare_call (hq : q = 241 ∨ q = 242 ∨ q = 244 ∨ q = 250 ∨ q = 240 ∨ q = 245) : bareN s f q = eCost s f q := by
  rcases hq with h | h | h | h | h | h <;> subst h <;> rfl
theorem access_ge (l : List Nat) (a : Nat) : 100 ≤ accessN l a := by
  unfold accessN
  split <;> decide
theorem sent_le9 (a b : Nat) : sentN a b ≤ a := by
  unfold sentN
  omega
theorem call_cost (hq : q = 241 ∨ q = 242 ∨ q = 244 ∨ q = 250) : 100 ≤ eCost s f q ∧ (cV f q ≠ 0 → 9100 ≤ eCost s f q) := by
  have ha := access_ge s.now.warmA (yT f 1)
  rcases hq with h | h | h | h <;> subst h <;> unfold eCost cV <;> simp only [Nat.reduceEqDiff, if_false, true_or, or_true, if_true, true_and, false_and, or_self, ne_eq, not_true_eq_false, false_implies, and_true, or_false, false_or]
  · constructor
    · repeat' split
      all_goals omega
    · intro h
      repeat' split
      all_goals omega
  · constructor
    · repeat' split
      all_goals omega
    · intro h
      repeat' split
      all_goals omega
  · exact ha
  · exact ha
theorem call_pay9 (hp : Paid s f q) (hq : q = 241 ∨ q = 242 ∨ q = 244 ∨ q = 250) : cG (stF s f) q + ((stF s f).gas - cSent (stF s f)) + 100 ≤ f.gas ∧ cSent (stF s f) ≤ (stF s f).gas := by
  have h1 := hp.gas
  rw [bare_call (by omega)] at h1
  have h2 := call_cost (s := s) (f := f) hq
  have h3 : cSent (stF s f) ≤ (stF s f).gas := sent_le9 _ _
  have hcv : cV (stF s f) q = cV f q := rfl
  unfold cG
  rw [hcv]
  refine ⟨?_, h3⟩
  split
  · omega
  · rename_i h9
    have := h2.2 h9
    omega
theorem call_it (h : IS s low f) (hB : EFB f) (hr : (refN s f (opcN f)).1 = 0) (e : opcN f = q) (hq : q = 241 ∨ q = 242 ∨ q = 244 ∨ q = 250) : IT (callY { s with ret := [] } (stF s f) q low) ∧ msr (callY { s with ret := [] } (stF s f) q low) < msr0 low f := by
  have hp := paid hr h.mf
  rw [e] at hp
  obtain ⟨hc, hcs⟩ := call_pay9 hp hq
  have hpc := pc_lt hB (by omega)
  have hge := hp.eq
  have hgg := hp.gas
  have hml := hp.m32
  have hgl := h.gl
  have hgmF : gm (stF s f) = (stF s f).gas + memN ((stF s f).mem.length / 32) := rfl
  have hgmf : gm f = f.gas + memN (f.mem.length / 32) := rfl
  have hWs : WI s.start (s.limit * s.price) (cS { s with ret := [] } (stF s f)).now := h.b.now.warmA _
  have hb0 : IB (cS { s with ret := [] } (stF s f)) := h.b.eq rfl rfl rfl rfl rfl rfl hWs (Nat.zero_le _)
  have hbare : 100 ≤ bareN s f q := by rw [bare_call (by omega)]; exact (call_cost hq).1
  unfold callY
  split
  · have hu : gm (cBack (stF s f) q) ≤ gm f := by
      show (stF s f).gas - cSent (stF s f) + cG (stF s f) q + memN ((stF s f).mem.length / 32) ≤ _
      have hbb : bareN s f q + (if cV f q = 0 then 0 else 0) = bareN s f q := by split <;> rfl
      unfold cG at hc ⊢
      have hcv : cV (stF s f) q = cV f q := rfl
      rw [hcv] at hc ⊢
      have h2 := call_cost (s := s) (f := f) hq
      rw [bare_call (by omega)] at hge
      split
      · omega
      · rename_i h9
        have := h2.2 h9
        omega
    refine ⟨.inl ⟨low, cBack (stF s f) q, rfl, h.top (hb0.eq rfl rfl rfl rfl rfl rfl hWs (Nat.zero_le _)) rfl rfl rfl rfl rfl hml hu⟩, ?_⟩
    rw [msr_top (low := low) (u := cBack (stF s f) q) rfl]
    show 8 * (sumg low + ((stF s f).gas - cSent (stF s f) + cG (stF s f) q)) + low.length + 1 < msr0 low f
    unfold msr0
    omega
  · have hw : gm (cWait (stF s f) q) + cG (stF s f) q ≤ gm f := by
      show (stF s f).gas - cSent (stF s f) + memN ((stF s f).mem.length / 32) + cG (stF s f) q ≤ _
      unfold cG at hc ⊢
      have hcv : cV (stF s f) q = cV f q := rfl
      rw [hcv] at hc ⊢
      have h2 := call_cost (s := s) (f := f) hq
      rw [bare_call (by omega)] at hge
      split
      · omega
      · rename_i h9
        have := h2.2 h9
        omega
    have hpf : PF (cWait (stF s f) q) := by
      have h64 := hB.stk
      refine ⟨?_, hpc, ?_⟩
      · show ((stF s f).stack.take _).length < 64
        rw [List.length_take]
        show min (f.stack.length - tkN q) f.stack.length < 64
        have : 6 ≤ tkN q := by rcases hq with h | h | h | h <;> subst h <;> decide
        omega
      · have hre := hp.reach
        intro h0
        have h0 : 0 < argN f.stack (tkN q - 4 + 3) := h0
        show (if argN f.stack (tkN q - 4 + 3) = 0 then 0 else argN f.stack (tkN q - 4 + 2)) + argN f.stack (tkN q - 4 + 3) ≤ (stF s f).mem.length
        rw [if_neg (by omega)]
        refine Nat.le_trans ?_ hre
        rcases hq with h | h | h | h <;> subst h
        · show argN f.stack 5 + argN f.stack 6 ≤ max (endN (argN f.stack 3) (argN f.stack 4)) (endN (argN f.stack 5) (argN f.stack 6))
          exact Nat.le_trans (end_ge2 (Nat.le_refl _) h0) (Nat.le_max_right _ _)
        · show argN f.stack 5 + argN f.stack 6 ≤ max (endN (argN f.stack 3) (argN f.stack 4)) (endN (argN f.stack 5) (argN f.stack 6))
          exact Nat.le_trans (end_ge2 (Nat.le_refl _) h0) (Nat.le_max_right _ _)
        · show argN f.stack 4 + argN f.stack 5 ≤ max (endN (argN f.stack 2) (argN f.stack 3)) (endN (argN f.stack 4) (argN f.stack 5))
          exact Nat.le_trans (end_ge2 (Nat.le_refl _) h0) (Nat.le_max_right _ _)
        · show argN f.stack 4 + argN f.stack 5 ≤ max (endN (argN f.stack 2) (argN f.stack 3)) (endN (argN f.stack 4) (argN f.stack 5))
          exact Nat.le_trans (end_ge2 (Nat.le_refl _) h0) (Nat.le_max_right _ _)
    have key := ent_is (s := { cS { s with ret := [] } (stF s f) with frames := low ++ [cWait (stF s f) q] }) (c := cChild { s with ret := [] } (stF s f) q) (low2 := low ++ [cWait (stF s f) q]) (hb0.eq rfl rfl rfl rfl rfl rfl hWs (Nat.zero_le _)) h.ph (h.sl (u := cWait (stF s f) q) rfl) (fun p hp9 => by
        rcases List.mem_append.1 hp9 with h1 | h1
        · exact h.par p h1
        · rw [List.mem_singleton.1 h1]; exact hpf) (fun g hg9 => by
        rcases List.mem_append.1 hg9 with h1 | h1
        · exact h.ml g h1
        · rw [List.mem_singleton.1 h1]; exact hml) (by
        rw [sumG_app, sumG_one]
        show sumG low + gm (cWait (stF s f) q) + cG (stF s f) q ≤ s.limit
        omega) rfl rfl
    refine ⟨key.1, ?_⟩
    rw [key.2, sumg_app, sumg_one, List.length_append]
    show 8 * (sumg low + ((stF s f).gas - cSent (stF s f)) + cG (stF s f) q) + (low.length + 1) + 1 < msr0 low f
    unfold msr0
    omega
theorem cre_it (h : IS s low f) (hB : EFB f) (hr : (refN s f (opcN f)).1 = 0) (e : opcN f = q) (hq : q = 240 ∨ q = 245) : IT (creY { s with ret := [] } (stF s f) q low) ∧ msr (creY { s with ret := [] } (stF s f) q low) < msr0 low f := by
  have hp := paid hr h.mf
  rw [e] at hp
  have hpc := pc_lt hB (by omega)
  have hge := hp.eq
  have hgg := hp.gas
  have hml := hp.m32
  have hgl := h.gl
  have hcg : crG (stF s f) ≤ (stF s f).gas := sent_le9 _ _
  have hbare : 32000 ≤ bareN s f q := by
    rw [bare_call (by omega)]
    rcases hq with h | h <;> subst h
    · exact Nat.le_add_right _ _
    · exact Nat.le_add_right _ _
  have hgmF : gm (stF s f) = (stF s f).gas + memN ((stF s f).mem.length / 32) := rfl
  have hgmf : gm f = f.gas + memN (f.mem.length / 32) := rfl
  have hWs : WI s.start (s.limit * s.price) (crS { s with ret := [] } (stF s f) q).now := (h.b.now.non _ _).warmA _
  have hb0 : IB { s with ret := [] } := h.b.eq rfl rfl rfl rfl rfl rfl h.b.now (Nat.zero_le _)
  have hb1 : IB (crS { s with ret := [] } (stF s f) q) := h.b.eq rfl rfl rfl rfl rfl rfl hWs (Nat.zero_le _)
  unfold creY
  split
  · refine ⟨.inl ⟨low, ansN (stF s f) (tkN q) 0, rfl, h.top (hb0.eq rfl rfl rfl rfl rfl rfl h.b.now (Nat.zero_le _)) rfl rfl rfl rfl rfl hml ?_⟩, ?_⟩
    · show gm (stF s f) ≤ gm f
      omega
    · rw [msr_top (low := low) (u := ansN (stF s f) (tkN q) 0) rfl]
      show 8 * (sumg low + (stF s f).gas) + low.length + 1 < msr0 low f
      unfold msr0
      omega
  · split
    · refine ⟨.inl ⟨low, ansN (crF1 (stF s f)) (tkN q) 0, rfl, h.top (hb1.eq rfl rfl rfl rfl rfl rfl hWs (Nat.zero_le _)) rfl rfl rfl rfl rfl hml ?_⟩, ?_⟩
      · show (stF s f).gas - crG (stF s f) + memN ((stF s f).mem.length / 32) ≤ gm f
        omega
      · rw [msr_top (low := low) (u := ansN (crF1 (stF s f)) (tkN q) 0) rfl]
        show 8 * (sumg low + ((stF s f).gas - crG (stF s f))) + low.length + 1 < msr0 low f
        unfold msr0
        omega
    · have hw : gm (waitN (crF1 (stF s f)) (tkN q) 0 0) + crG (stF s f) ≤ gm f := by
        show (stF s f).gas - crG (stF s f) + memN ((stF s f).mem.length / 32) + crG (stF s f) ≤ _
        omega
      have hpf : PF (waitN (crF1 (stF s f)) (tkN q) 0 0) := by
        have h64 := hB.stk
        refine ⟨?_, hpc, fun h0 => absurd h0 (by show ¬ 0 < 0; omega)⟩
        show ((stF s f).stack.take _).length < 64
        rw [List.length_take]
        show min (f.stack.length - tkN q) f.stack.length < 64
        have : 3 ≤ tkN q := by rcases hq with h | h <;> subst h <;> decide
        omega
      have key := ent_is (s := { crS { s with ret := [] } (stF s f) q with frames := low ++ [waitN (crF1 (stF s f)) (tkN q) 0 0] }) (c := crChild { s with ret := [] } (stF s f) q) (low2 := low ++ [waitN (crF1 (stF s f)) (tkN q) 0 0]) (hb1.eq rfl rfl rfl rfl rfl rfl hWs (Nat.zero_le _)) h.ph (h.sl (u := waitN (crF1 (stF s f)) (tkN q) 0 0) rfl) (fun p hp9 => by
          rcases List.mem_append.1 hp9 with h1 | h1
          · exact h.par p h1
          · rw [List.mem_singleton.1 h1]; exact hpf) (fun g hg9 => by
          rcases List.mem_append.1 hg9 with h1 | h1
          · exact h.ml g h1
          · rw [List.mem_singleton.1 h1]; exact hml) (by
          rw [sumG_app, sumG_one]
          show sumG low + gm (waitN (crF1 (stF s f)) (tkN q) 0 0) + crG (stF s f) ≤ s.limit
          omega) rfl rfl
      refine ⟨key.1, ?_⟩
      rw [key.2, sumg_app, sumg_one, List.length_append]
      show 8 * (sumg low + ((stF s f).gas - crG (stF s f)) + crG (stF s f)) + (low.length + 1) + 1 < msr0 low f
      unfold msr0
      omega
theorem fam16 (h : famN q = 16) : q = 240 ∨ q = 241 ∨ q = 242 ∨ q = 244 ∨ q = 245 ∨ q = 250 ∨ q = 255 := by
  unfold famN at h
  repeat' split at h
  all_goals first | omega | assumption
theorem step_it (h : IS s low f) (hB : EFB f) : IT (stepY s f low) ∧ ((stepY s f low).phase = 1 → msr (stepY s f low) < msr0 low f) := by
  unfold stepY
  split
  · unfold natY
    split
    · exact h.lv rfl h.b.now rfl (Nat.sub_le _ _) (nr_len9 hB) (by decide)
    · exact h.lv rfl h.b.now rfl (Nat.le_refl _) (Nat.zero_le _) (by decide)
  · split
    · exact h.lv rfl h.b.now rfl (Nat.le_refl _) (Nat.zero_le _) ref_le9
    · rename_i hn hr
      have hr : (refN s f (opcN f)).1 = 0 := Classical.not_not.1 hr
      have hp := paid hr h.mf
      have hsg : (stF s f).gas ≤ f.gas := Nat.sub_le _ _
      have hsl := stF_len h hr
      split
      · exact h.lv rfl h.b.now rfl hsg (Nat.zero_le _) (by decide)
      · split
        · rename_i e
          refine h.lv rfl h.b.now rfl hsg ?_ (by decide)
          unfold stO
          rw [rd_len']
          refine Nat.le_trans (end_ge (a := argN f.stack 0) ?_) hsl
          have := hp.reach
          rw [e] at this
          exact this
        · split
          · rename_i e
            refine h.lv rfl h.b.now rfl hsg ?_ (by decide)
            unfold stO
            rw [rd_len']
            refine Nat.le_trans (end_ge (a := argN f.stack 0) ?_) hsl
            have := hp.reach
            rw [e] at this
            exact this
          · split
            · exact h.lv rfl h.b.now.des rfl hsg (Nat.zero_le _) (by decide)
            · split
              · rename_i n0 n1 n2 n3 hf
                have hq := fam16 hf
                unfold entersY
                split
                · rename_i hq9
                  have := cre_it h hB hr rfl hq9
                  exact ⟨this.1, fun _ => this.2⟩
                · have := call_it h hB hr rfl (q := opcN f) (by omega)
                  exact ⟨this.1, fun _ => this.2⟩
              · rename_i n0 n1 n2 n3 hf
                obtain ⟨c1, c2, c3, c4, c5, c6, c7, c8⟩ := pl_ctx s (stF s f) (opcN f)
                have hW : WI s.start (s.limit * s.price) (plS s (stF s f) (opcN f)).now := WI.pl (f := stF s f) h.b (fun hq => by
                  have h2 : 2 ≤ tkN (opcN f) := by
                    have h9 : ∀ x : Fin 5, 2 ≤ tkN (160 + x.1) := by decide
                    have := h9 ⟨opcN f - 160, by omega⟩
                    rwa [show 160 + (opcN f - 160) = opcN f from by omega] at this
                  have e1 : opndN (argL (stF s f) (opcN f)) 1 = argN f.stack 1 := by
                    unfold opndN argL
                    rw [List.getElem?_map, List.getElem?_range (by omega)]
                    rfl
                  rw [e1]
                  have hre := hp.reach
                  unfold yReach at hre
                  rw [if_pos (by omega)] at hre
                  have := end_ge hre
                  omega)
                have hb : IB { plS s (stF s f) (opcN f) with frames := low ++ [plF s (stF s f) (opcN f)] } := h.b.eq c1 c2 c3 c4 c5 c6 hW (by show (plS s (stF s f) (opcN f)).ret.length ≤ _; rw [c7]; exact h.b.ret)
                have hpm := pl_mem s (stF s f) (opcN f)
                have hbp := bare_pos (s := s) (f := f) n0 n1 n2
                have hgg := hp.gas
                refine ⟨.inl ⟨low, plF s (stF s f) (opcN f), rfl, h.top hb c1 c2 c3 c8 rfl (by rw [hpm]; exact hp.m32) ?_⟩, fun _ => ?_⟩
                · show (stF s f).gas + memN ((plF s (stF s f) (opcN f)).mem.length / 32) ≤ gm f
                  rw [hpm]
                  have := hp.eq
                  unfold gm at this ⊢
                  omega
                · rw [msr_top (low := low) (u := plF s (stF s f) (opcN f)) rfl]
                  show 8 * (sumg low + (stF s f).gas) + low.length + 1 < msr0 low f
                  unfold msr0
                  omega
end
end Go.Proofs.YgvaawGreat
