import Derived.Test.YgvaawGreatY25
set_option maxRecDepth 100000
set_option maxHeartbeats 4000000
set_option linter.unusedSimpArgs false
set_option linter.unusedVariables false
namespace Go.Proofs.YgvaawGreat
open Go
theorem flat_one {cs : List (List Value)} (h : ∀ c ∈ cs, ∀ v ∈ c, v.one1 = true) : ∀ v ∈ cs.flatten, v.one1 = true := by
  intro v hv
  obtain ⟨c, hc, hv⟩ := List.mem_flatten.1 hv
  exact h c hc v hv
theorem LV.raw {α : Type} {P : Cp α} {k n c : Nat} {H : Store} {a : Option Addr} {xs : List α} (h : LV P k H (.slice a n c) xs) (hp : ∀ c x, P H c x → ∀ v ∈ c, v.one1 = true) : ∃ cs : List (List Value), SV H k xs.length (.slice a n c) cs.flatten ∧ cs.length = xs.length ∧ (∀ (i : Nat) c x, cs[i]? = some c → xs[i]? = some x → c.length = k ∧ P H c x) ∧ ∀ v ∈ cs.flatten, v.one1 = true := by
  obtain ⟨cs, h1, h2, h3⟩ := h.ex
  refine ⟨cs, h1, h2, h3, flat_one fun c hc v hv => ?_⟩
  obtain ⟨j, hj, e⟩ := List.getElem_of_mem hc
  exact hp c xs[j] (h3 j c xs[j] (by rw [List.getElem?_eq_getElem hj, e]) (List.getElem?_eq_getElem (by omega))).2 v hv
theorem one_addrs {H : Store} : ∀ c x, P_addr H c x → ∀ v ∈ c, v.one1 = true := fun c x h => by rw [h.1]; exact one_bL _
theorem one_words {H : Store} : ∀ c x, P_word H c x → ∀ v ∈ c, v.one1 = true := fun c x h => by rw [h.1]; exact one_bL _
/-- a fresh block that holds the cells of a list -/
theorem LV.ofNew {α : Type} {P : Cp α} {k n : Nat} {H H' : Store} {b : Nat} {xs : List α} {cs : List (List Value)} (hb : H' b = some cs.flatten.toArray) (hl : Le H H') (hP : Mono P) (hn : n = xs.length) (h63 : n < 9223372036854775808) (h2 : cs.length = xs.length) (h3 : ∀ (i : Nat) c x, cs[i]? = some c → xs[i]? = some x → c.length = k ∧ P H c x) : LV P k H' (.slice (some ⟨b, 0, none⟩) n n) xs := by
  refine ⟨cs, ?_, h2, fun i c x hc hx => ⟨(h3 i c x hc hx).1, hP _ _ _ _ hl (h3 i c x hc hx).2⟩⟩
  subst hn
  refine SV.of ?_ (Nat.le_refl _) h63 hb (RowIn.self _)
  rw [flen (k := k) ?_, h2]
  intro q hq
  obtain ⟨j, hj, e⟩ := List.getElem_of_mem hq
  exact (h3 j q xs[j] (by rw [List.getElem?_eq_getElem hj, e]) (List.getElem?_eq_getElem (by omega))).1
theorem size_made (z : Value) (n : Nat) : (madeCells z.cells n).size = n := by simp [madeCells]
theorem spl_full9 {cs : Array Value} {l : List Value} (h : l.length = cs.size) : spl cs 0 l = l.toArray := spl_full _ _ h.symm
theorem fill_nxt {us : List Value} {m i : Nat} {z v : Value} (hl : us.length = i) (hi : i < m) : spl (us ++ List.replicate (m - i) z).toArray (0 + i * 1) [v] = ((us ++ [v]) ++ List.replicate (m - (i + 1)) z).toArray := by
  have e : List.replicate (m - i) z = z :: List.replicate (m - (i + 1)) z := by
    rw [show m - i = (m - (i + 1)) + 1 by omega, List.replicate_succ]
  rw [e, show 0 + i * 1 = i by omega]
  have h := spl_mid us z (List.replicate (m - (i + 1)) z) v i hl.symm
  rw [h]
  simp
theorem yp_addrsOf {w : World} {H : Store} (hF : Fz w H) {a : Option Addr} {c : Nat} {xs : List Nat} (hL : LV P_addr 20 H (.slice a xs.length c) xs) (hn : xs.length < 16777216) :
    Ret 218 [.slice a xs.length c] w (fun v w' => ∃ H', Go No w H w' H' ∧ LV P_addr 20 H' v xs) := by
  obtain ⟨cs, hSV, hcl, hcp, hone⟩ := hL.raw one_addrs
  have hF0 := hF
  refine enter (n := 13) Hvaa.func218 rfl rfl (Nat.le_of_ble_eq_true rfl) ?_
  have U := Up.refl w
  have G : Go (No) w H w H := Go.refl hF
  refine c_seq (fun K1 hK1 => ?_)
  exact (by
    refine c_region ?_
    refine l_step y_assignC ?_
    refine l_nil ?_
    refine hK1 _ _ ?_
    refine fg1 0 (gS rfl g0) (fun g => ?_)
    refine c_seq (fun K2 hK2 => ?_)
    refine c_seq (fun K3 hK3 => ?_)
    exact (by
      refine c_region ?_
      refine l_step (y_moveV (et g0 rfl)) ?_
      refine l_step (y_eqlNS Hvaa.underlying93 (et g0 rfl) rfl) ?_
      refine l_nil ?_
      refine hK3 _ _ ?_
      refine fg2 0 5 (gS rfl (gS rfl g0)) g0 (fun g => ?_)
      refine c_cond (et g0 rfl) (fun cB1 => ?_) (fun cB1 => ?_)
      · skip
        
        have hz : xs.length = 0 := hSV.at'.elim (fun h => h.2) (fun ⟨b, o, c', ds, e9, _⟩ => by cases e9; cases cB1)
        refine c_seq (fun K5 hK5 => ?_)
        exact (by
          refine c_region ?_
          refine l_step y_assignC ?_
          refine l_nil ?_
          refine hK5 _ _ ?_
          refine fg1 2 g0 (fun g => ?_)
          refine c_ret ?_
          repeat with_reducible refine then_ret ?_
          refine ret1 rfl (res_tmp (et g0 rfl)) ?_
          exact ⟨_, G, by rw [List.length_eq_zero_iff.1 hz]; exact LV.nil _ _ _⟩)
      · skip
        
        obtain ⟨aq, hsa, hsr⟩ : ∃ aq, a = some aq ∧ RowA w aq cs.flatten := hSV.at'.elim (fun h => by
            obtain ⟨⟨q, e1⟩, e2⟩ := h
            injection e1 with e1
            cases q with
            | none => rw [e1] at cB1; cases cB1
            | some aq => exact ⟨aq, e1, .inl (List.eq_nil_of_length_eq_zero (by rw [hSV.len, e2, Nat.zero_mul]))⟩) (fun ⟨b, o, c', ds, e9, g1, g2, g3, g4⟩ => by cases e9; exact ⟨⟨b, o, none⟩, rfl, .inr ⟨rfl, (hF0.blk b ds g3).row g4⟩⟩)
        subst hsa
        replace hsr := hsr.up U
        refine c_skip ?_
        refine hK2 _ _ ?_
        refine fg1 0 (gS rfl g0) (fun g => ?_)
        refine c_seq (fun K6 hK6 => ?_)
        exact (by
          refine c_region ?_
          refine l_step (y_moveV (et g0 rfl)) ?_
          refine l_step (y_len Hvaa.underlying93 (et g0 rfl)) ?_
          refine l_eff (e_make Hvaa.underlying93 sz_25 zr_25 by_25 (et g0 rfl) (et g0 rfl) (by omega) (by omega)) (fun v7 w7 h7 => ?_)
          obtain ⟨b7, rfl, n7⟩ := h7
          have f7 : w.heap.size ≤ b7 := Nat.le_trans U.size n7.fresh
          have nb7 := hF.nb n7.fresh
          replace G := G.tr (Go.ofUp hF n7.up)
          replace hF := hF.up n7.up
          replace U := U.tr n7.up
          have k7 := n7.blk
          replace hsr := hsr.up n7.up
          refine l_step (y_assignV (et g0 rfl)) ?_
          refine l_nil ?_
          refine hK6 _ _ ?_
          refine fg2 0 3 (gS rfl (gS rfl (gS rfl (gS rfl g0)))) g0 (fun g => ?_)
          refine c_seq (fun K8 hK8 => ?_)
          exact (by
            refine c_region ?_
            refine l_step (y_moveV (et g0 rfl)) ?_
            refine l_step (y_moveV (et (gS rfl (gS rfl g0)) rfl)) ?_
            refine l_eff (e_copyKA Hvaa.underlying93 sz_25 (et (gS rfl g0) rfl) (et g0 rfl) (l := cs.flatten) (by rw [hSV.len, Nat.min_self]) hsr hone k7 (by rw [hSV.len, size_made]; omega)) (fun v9 w9 h9 => ?_)
            obtain ⟨rfl, x9⟩ := h9
            replace G := G.chs x9.ch (by intro b hb; first | omega | exact .inl hb | (simp at hb ⊢; omega)) (by intro q hq; first | (subst hq; assumption) | (simp only at hq; first | (subst hq; assumption) | (rcases hq with rfl | rfl <;> assumption)))
            replace hF := G.fz
            replace k7 := x9.blk
            replace U := U.cc x9.ch (by intro b hb; first | exact hb ▸ f7 | omega)
            rw [spl_full9 (by rw [hSV.len, size_made])] at k7
            refine l_nil ?_
            refine hK8 _ _ ?_
            refine fg1 3 (gS rfl (gS rfl (gS rfl g0))) (fun g => ?_)
            refine c_seq (fun K10 hK10 => ?_)
            exact (by
              refine c_region ?_
              refine l_step (y_moveV (et g0 rfl)) ?_
              refine l_step (y_assignV (et g0 rfl)) ?_
              refine l_nil ?_
              refine hK10 _ _ ?_
              refine fg1 2 g0 (fun g => ?_)
              refine c_ret ?_
              repeat with_reducible refine then_ret ?_
              refine ret1 rfl (res_tmp (et g0 rfl)) ?_
              obtain ⟨H2, g2, l2, e2⟩ := G.hold k7 f7
              exact ⟨H2, g2, LV.ofNew e2 l2 mono_addr rfl (by omega) hcl hcp⟩)))))
theorem yp_wordsOf {w : World} {H : Store} (hF : Fz w H) {a : Option Addr} {c : Nat} {xs : List Nat} (hL : LV P_word 32 H (.slice a xs.length c) xs) (hn : xs.length < 16777216) :
    Ret 31 [.slice a xs.length c] w (fun v w' => ∃ H', Go No w H w' H' ∧ LV P_word 32 H' v xs) := by
  obtain ⟨cs, hSV, hcl, hcp, hone⟩ := hL.raw one_words
  have hF0 := hF
  refine enter (n := 13) Hvaa.func31 rfl rfl (Nat.le_of_ble_eq_true rfl) ?_
  have U := Up.refl w
  have G : Go (No) w H w H := Go.refl hF
  refine c_seq (fun K1 hK1 => ?_)
  exact (by
    refine c_region ?_
    refine l_step y_assignC ?_
    refine l_nil ?_
    refine hK1 _ _ ?_
    refine fg1 0 (gS rfl g0) (fun g => ?_)
    refine c_seq (fun K2 hK2 => ?_)
    refine c_seq (fun K3 hK3 => ?_)
    exact (by
      refine c_region ?_
      refine l_step (y_moveV (et g0 rfl)) ?_
      refine l_step (y_eqlNS Hvaa.underlying29 (et g0 rfl) rfl) ?_
      refine l_nil ?_
      refine hK3 _ _ ?_
      refine fg2 0 5 (gS rfl (gS rfl g0)) g0 (fun g => ?_)
      refine c_cond (et g0 rfl) (fun cB1 => ?_) (fun cB1 => ?_)
      · skip
        
        have hz : xs.length = 0 := hSV.at'.elim (fun h => h.2) (fun ⟨b, o, c', ds, e9, _⟩ => by cases e9; cases cB1)
        refine c_seq (fun K5 hK5 => ?_)
        exact (by
          refine c_region ?_
          refine l_step y_assignC ?_
          refine l_nil ?_
          refine hK5 _ _ ?_
          refine fg1 2 g0 (fun g => ?_)
          refine c_ret ?_
          repeat with_reducible refine then_ret ?_
          refine ret1 rfl (res_tmp (et g0 rfl)) ?_
          exact ⟨_, G, by rw [List.length_eq_zero_iff.1 hz]; exact LV.nil _ _ _⟩)
      · skip
        
        obtain ⟨aq, hsa, hsr⟩ : ∃ aq, a = some aq ∧ RowA w aq cs.flatten := hSV.at'.elim (fun h => by
            obtain ⟨⟨q, e1⟩, e2⟩ := h
            injection e1 with e1
            cases q with
            | none => rw [e1] at cB1; cases cB1
            | some aq => exact ⟨aq, e1, .inl (List.eq_nil_of_length_eq_zero (by rw [hSV.len, e2, Nat.zero_mul]))⟩) (fun ⟨b, o, c', ds, e9, g1, g2, g3, g4⟩ => by cases e9; exact ⟨⟨b, o, none⟩, rfl, .inr ⟨rfl, (hF0.blk b ds g3).row g4⟩⟩)
        subst hsa
        replace hsr := hsr.up U
        refine c_skip ?_
        refine hK2 _ _ ?_
        refine fg1 0 (gS rfl g0) (fun g => ?_)
        refine c_seq (fun K6 hK6 => ?_)
        exact (by
          refine c_region ?_
          refine l_step (y_moveV (et g0 rfl)) ?_
          refine l_step (y_len Hvaa.underlying29 (et g0 rfl)) ?_
          refine l_eff (e_make Hvaa.underlying29 sz_28 zr_28 by_28 (et g0 rfl) (et g0 rfl) (by omega) (by omega)) (fun v7 w7 h7 => ?_)
          obtain ⟨b7, rfl, n7⟩ := h7
          have f7 : w.heap.size ≤ b7 := Nat.le_trans U.size n7.fresh
          have nb7 := hF.nb n7.fresh
          replace G := G.tr (Go.ofUp hF n7.up)
          replace hF := hF.up n7.up
          replace U := U.tr n7.up
          have k7 := n7.blk
          replace hsr := hsr.up n7.up
          refine l_step (y_assignV (et g0 rfl)) ?_
          refine l_nil ?_
          refine hK6 _ _ ?_
          refine fg2 0 3 (gS rfl (gS rfl (gS rfl (gS rfl g0)))) g0 (fun g => ?_)
          refine c_seq (fun K8 hK8 => ?_)
          exact (by
            refine c_region ?_
            refine l_step (y_moveV (et g0 rfl)) ?_
            refine l_step (y_moveV (et (gS rfl (gS rfl g0)) rfl)) ?_
            refine l_eff (e_copyKA Hvaa.underlying29 sz_28 (et (gS rfl g0) rfl) (et g0 rfl) (l := cs.flatten) (by rw [hSV.len, Nat.min_self]) hsr hone k7 (by rw [hSV.len, size_made]; omega)) (fun v9 w9 h9 => ?_)
            obtain ⟨rfl, x9⟩ := h9
            replace G := G.chs x9.ch (by intro b hb; first | omega | exact .inl hb | (simp at hb ⊢; omega)) (by intro q hq; first | (subst hq; assumption) | (simp only at hq; first | (subst hq; assumption) | (rcases hq with rfl | rfl <;> assumption)))
            replace hF := G.fz
            replace k7 := x9.blk
            replace U := U.cc x9.ch (by intro b hb; first | exact hb ▸ f7 | omega)
            rw [spl_full9 (by rw [hSV.len, size_made])] at k7
            refine l_nil ?_
            refine hK8 _ _ ?_
            refine fg1 3 (gS rfl (gS rfl (gS rfl g0))) (fun g => ?_)
            refine c_seq (fun K10 hK10 => ?_)
            exact (by
              refine c_region ?_
              refine l_step (y_moveV (et g0 rfl)) ?_
              refine l_step (y_assignV (et g0 rfl)) ?_
              refine l_nil ?_
              refine hK10 _ _ ?_
              refine fg1 2 g0 (fun g => ?_)
              refine c_ret ?_
              repeat with_reducible refine then_ret ?_
              refine ret1 rfl (res_tmp (et g0 rfl)) ?_
              obtain ⟨H2, g2, l2, e2⟩ := G.hold k7 f7
              exact ⟨H2, g2, LV.ofNew e2 l2 mono_word rfl (by omega) hcl hcp⟩)))))
end Go.Proofs.YgvaawGreat
