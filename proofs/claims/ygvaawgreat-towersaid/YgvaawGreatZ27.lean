import Derived.Test.YgvaawGreatZ26
set_option maxRecDepth 100000
set_option maxHeartbeats 4000000
set_option linter.unusedSimpArgs false
set_option linter.unusedVariables false
namespace Go.Proofs.YgvaawGreat
open Go
section
variable {n : Nat} {s : Nat → Value} {S : World → Prop} {d : Option Nat} {ty : TypeId} {pos : String} {af : Array Edge} {g : Option (Nat × Bool)}
theorem y_slS110n {T e k b o len cap i j : Nat} {x l h : Operand} {kl kh : IntKind} (hU : Hvaa.prog.underlying T = some (.slice e)) (hs : Sz e k) (hx : ev n s x = .slice (some ⟨b, o, none⟩) len cap) (hl : ev n s l = .int kl (i : Nat)) (hh : ev n s h = .int kh (j : Nat)) (c2 : i ≤ j) (c4 : j ≤ cap) (c7 : i < cap) :
    Yv S n s ⟨d, .slice T x (some l) (some h) none, ty, pos, af, g⟩ (.slice (some ⟨b, o + i * k, none⟩) (j - i) (cap - i)) := by
  have := y_slS110 (S := S) (d := d) (ty := ty) (pos := pos) (af := af) (g := g) hU hs hx hl hh (by omega) (by omega) (by omega) (by omega) (by omega)
  simpa using this
end
theorem spl_app {A M C Q : List Value} (h : M.length = Q.length) : spl (A ++ M ++ C).toArray A.length Q = (A ++ Q ++ C).toArray := by
  apply Array.ext_getElem?
  intro i
  rw [get_spl _ _ _ _ (by simp; omega)]
  simp only [List.getElem?_toArray]
  by_cases h1 : i < A.length
  · rw [if_neg (by omega), List.append_assoc, List.append_assoc, List.getElem?_append_left h1, List.getElem?_append_left h1]
  · by_cases h2 : i < A.length + Q.length
    · rw [if_pos (by omega), List.append_assoc, List.getElem?_append_right (by omega), List.getElem?_append_left (by omega)]
    · rw [if_neg (by omega), List.getElem?_append_right (by simp; omega), List.getElem?_append_right (by simp; omega)]
      simp [h]
theorem part_spl {l : List Nat} {off n N : Nat} (hd : Dig 256 l) (hn : n ≤ N) : spl (bL (List.replicate N 0)).toArray (N - n) (bL ((l.drop off).take n)) = (bL (be N (ofBE (cutN l off n)))).toArray := by
  have e1 : be N (ofBE (cutN l off n)) = List.replicate (N - n) 0 ++ cutN l off n := by
    have h := be_ofBE (List.replicate (N - n) 0 ++ cutN l off n) ((Dig.rep 256 _ (by decide)).app (dig_cut hd off n))
    rw [List.length_append, List.length_replicate, len_cut, show N - n + n = N by omega] at h
    rw [← h]
    congr 1
    rw [← val_reverse, ← val_reverse, List.reverse_append, val_append, List.reverse_replicate, val_rep]
    omega
  have e2 : List.replicate N 0 = List.replicate (N - n) 0 ++ List.replicate (min n (l.length - off)) 0 ++ List.replicate (n - (l.length - off)) 0 := by
    rw [List.replicate_append_replicate, List.replicate_append_replicate]
    congr 1
    omega
  have h := spl_app (A := bL (List.replicate (N - n) 0)) (M := bL (List.replicate (min n (l.length - off)) 0)) (C := bL (List.replicate (n - (l.length - off)) 0)) (Q := bL ((l.drop off).take n)) (by rw [length_bL, length_bL, List.length_replicate, List.length_take, List.length_drop])
  rw [length_bL, List.length_replicate, ← bL_append, ← bL_append, ← e2] at h
  rw [h, e1, cutN, ← bL_append, ← bL_append, List.append_assoc]
theorem be_zero (N : Nat) : be N 0 = List.replicate N 0 := by
  have h := be_ofBE (List.replicate N 0) (Dig.rep 256 _ (by decide))
  rw [List.length_replicate, ← val_reverse, List.reverse_replicate, val_rep] at h
  exact h
theorem part_none {l : List Nat} {off n N : Nat} (h : ¬ (off < l.length ∧ 0 < n)) : (bL (List.replicate N 0)).toArray = (bL (be N (ofBE (cutN l off n)))).toArray := by
  have e : cutN l off n = List.replicate n 0 := by
    by_cases h0 : off < l.length
    · have : n = 0 := by omega
      subst this
      exact List.eq_nil_of_length_eq_zero (len_cut l off 0)
    · exact cut_none n h0
  rw [e, ← val_reverse, List.reverse_replicate, val_rep, be_zero]
theorem val_limbs (x k : Nat) : val 18446744073709551616 ((List.range k).map (limb x)) = x % 18446744073709551616 ^ k := by
  induction k with
  | zero => rw [Nat.pow_zero, Nat.mod_one]; rfl
  | succ k ih =>
    rw [List.range_succ, List.map_append, List.map_cons, List.map_nil, val_snoc, ih, List.length_map, List.length_range, Nat.mod_pow_succ]
    rfl
theorem dig_limbs (x k : Nat) : Dig 18446744073709551616 ((List.range k).map (limb x)) := fun d hd => by
  obtain ⟨i, _, rfl⟩ := List.mem_map.1 hd
  exact limb_lt _ _
theorem limbs_eq {R : List Nat} {k : Nat} (hl : R.length = k) (hd : Dig 18446744073709551616 R) : R = (List.range k).map (limb (val 18446744073709551616 R)) := by
  refine val_inj (by decide) hd (dig_limbs _ _) (by simp [hl]) ?_
  rw [val_limbs, Nat.mod_eq_of_lt (by rw [← hl]; exact val_lt hd)]
theorem cut_lt {l : List Nat} (hd : Dig 256 l) (off n : Nat) : ofBE (cutN l off n) < 256 ^ n := by
  have h := ofBE_lt _ (dig_cut hd off n)
  rw [len_cut] at h
  exact h
theorem be64_at {x i : Nat} (hi : i < 8) : ((be 64 x).drop (56 - 8 * i)).take 8 = be 8 (x / 256 ^ (8 * i)) := by
  have h := be_take_drop (56 - 8 * i) 8 (8 * i) x
  rw [show 56 - 8 * i + 8 + 8 * i = 64 by omega] at h
  exact h
theorem be_modk (k n : Nat) : be k (n % 256 ^ k) = be k n := by
  have h1 := be_ofBE (be k n) (be_lt k n)
  rw [length_be, ofBE_be] at h1
  exact h1
theorem be64_put {x i : Nat} (hi : i < 8) : spl (bL (be 64 (x % 18446744073709551616 ^ i))).toArray (56 - 8 * i) (bL (be 8 (limb x i))) = (bL (be 64 (x % 18446744073709551616 ^ (i + 1)))).toArray := by
  have hp : ∀ j, 18446744073709551616 ^ j = 256 ^ (8 * j) := fun j => by rw [Nat.pow_mul]
  have hc : ∀ n, be 64 n = be (56 - 8 * i) (n / 256 ^ (8 + 8 * i)) ++ be 8 (n / 256 ^ (8 * i)) ++ be (8 * i) n := fun n => by
    have h1 := be_split (56 - 8 * i) (8 + 8 * i) n
    rw [show 56 - 8 * i + (8 + 8 * i) = 64 by omega] at h1
    rw [h1, be_split 8 (8 * i) n, List.append_assoc]
  have h1 : x % 18446744073709551616 ^ i < 256 ^ (8 * i) := by rw [hp]; exact Nat.mod_lt _ (Nat.pow_pos (by decide))
  have h2 : x % 18446744073709551616 ^ (i + 1) < 256 ^ (8 + 8 * i) := by rw [hp, show 8 * (i + 1) = 8 + 8 * i by omega]; exact Nat.mod_lt _ (Nat.pow_pos (by decide))
  have h3 : x % 18446744073709551616 ^ i < 256 ^ (8 + 8 * i) := Nat.lt_of_lt_of_le h1 (Nat.pow_le_pow_right (by decide) (by omega))
  have h4 : x % 18446744073709551616 ^ (i + 1) / 256 ^ (8 * i) = limb x i := by
    rw [Nat.mod_pow_succ, ← hp, Nat.add_mul_div_left _ _ (Nat.pow_pos (by decide)), Nat.div_eq_of_lt (Nat.mod_lt _ (Nat.pow_pos (by decide))), Nat.zero_add]
    rfl
  have h5 : be (8 * i) (x % 18446744073709551616 ^ (i + 1)) = be (8 * i) (x % 18446744073709551616 ^ i) := by
    rw [← be_modk (8 * i) (x % 18446744073709551616 ^ (i + 1)), ← hp, Nat.mod_pow_succ, Nat.add_mul_mod_self_left, Nat.mod_mod]
  rw [hc (x % 18446744073709551616 ^ i), hc (x % 18446744073709551616 ^ (i + 1)), h4, h5, Nat.div_eq_of_lt h2, Nat.div_eq_of_lt h3, bL_append, bL_append, bL_append, bL_append]
  have h6 := spl_app (A := bL (be (56 - 8 * i) 0)) (M := bL (be 8 (x % 18446744073709551616 ^ i / 256 ^ (8 * i)))) (C := bL (be (8 * i) (x % 18446744073709551616 ^ i))) (Q := bL (be 8 (limb x i))) (by rw [length_bL, length_bL, length_be, length_be])
  rw [length_bL, length_be] at h6
  exact h6
theorem m_part1 {w : World} (s0 bb N off kn : Nat) {a : Option Addr} {c : Nat} {l : List Nat} (hW : WV s0 w (.slice a l.length c) l) (hl : l.length ≤ 717280) (kB : Blk w bb (bL (List.replicate N 0)).toArray) (hb0 : s0 ≤ bb) (hN : N ≤ 64) (ho : off < 1099511627776) (hn : kn ≤ N) (hn0 : 0 < kn) :
    Ret 251 [.slice (some ⟨bb, 0, none⟩) N N, .slice a l.length c, .int .i64 (off : Nat), .int .i64 (kn : Nat)] w (fun v w' => v = .tuple #[] ∧ Blk w' bb (bL (be N (ofBE (cutN l off kn)))).toArray ∧ Ch (fun q => q = bb) w w') := by
  obtain ⟨_, _, e9, hcl9, hcm9⟩ := hW.val
  cases e9
  refine enter (n := 40) Hvaa.func251 rfl rfl (Nat.le_of_ble_eq_true rfl) ?_
  have U : Ch (fun q => q = bb) w w := Ch.refl _ w
  refine c_seq (fun K1 hK1 => ?_)
  exact (by
    refine c_region ?_
    refine l_step (y_moveV (et (gS rfl (gS rfl g0)) rfl)) ?_
    refine l_step (y_moveV (et (gS rfl (gS rfl g0)) rfl)) ?_
    refine l_step (y_len Hvaa.underlying38 (et g0 rfl)) ?_
    refine l_step (y_lss (et (gS rfl (gS rfl g0)) rfl) (et g0 rfl)) ?_
    refine l_step (y_moveV (et g0 rfl)) ?_
    refine gsplitL (i := 13) g0 (fun q2 => ?_) (fun q2 => ?_)
    · skip
      have hlt9 : off < l.length := by have := of_decide_eq_true q2; omega
      obtain ⟨b0, o0, rfl, hb00, hr0⟩ := hW.at (by omega)
      refine l_gstep (j := 4) (t := 13) (by exact rfl) (by exact rfl) (et g0 rfl) (by decide) (y_moveV (et (gS rfl (gS rfl (gS rfl (gS rfl (gS rfl (gS rfl (gS rfl (gS rfl (gS rfl g0))))))))) rfl)) ?_
      refine l_gstep (j := 4) (t := 13) (by exact rfl) (by exact rfl) (et (gS rfl g0) rfl) (by decide) (y_moveV (et (gS rfl (gS rfl (gS rfl (gS rfl (gS rfl (gS rfl (gS rfl g0))))))) rfl)) ?_
      refine l_gstep (j := 4) (t := 13) (by exact rfl) (by exact rfl) (et (gS rfl (gS rfl g0)) rfl) (by decide) (y_len Hvaa.underlying38 (et g0 rfl)) ?_
      refine l_gstep (j := 4) (t := 13) (by exact rfl) (by exact rfl) (et (gS rfl (gS rfl (gS rfl g0))) rfl) (by decide) (y_leq (et (gS rfl (gS rfl g0)) rfl) (et g0 rfl)) ?_
      refine l_step (y_pickT (et (gS rfl (gS rfl (gS rfl (gS rfl g0)))) rfl) (et g0 rfl)) ?_
      refine l_nil ?_
      refine hK1 _ _ ?_
      refine fg5 3 2 1 0 18 (gS rfl (gS rfl (gS rfl (gS rfl (gS rfl (gS rfl (gS rfl (gS rfl (gS rfl (gS rfl (gS rfl (gS rfl (gS rfl (gS rfl g0)))))))))))))) (gS rfl (gS rfl (gS rfl (gS rfl (gS rfl (gS rfl (gS rfl (gS rfl (gS rfl (gS rfl (gS rfl (gS rfl (gS rfl g0))))))))))))) (gS rfl (gS rfl (gS rfl (gS rfl (gS rfl (gS rfl (gS rfl (gS rfl (gS rfl (gS rfl (gS rfl (gS rfl g0)))))))))))) (gS rfl (gS rfl (gS rfl (gS rfl (gS rfl (gS rfl (gS rfl (gS rfl (gS rfl (gS rfl (gS rfl g0))))))))))) g0 (fun g => ?_)
      refine c_true (et g0 rfl) (by (exact decide_eq_true (by omega))) ?_
      refine c_seq (fun K4 hK4 => ?_)
      exact (by
        refine c_region ?_
        refine l_step (y_moveV (et (gS rfl (gS rfl g0)) rfl)) ?_
        refine l_step (y_len Hvaa.underlying38 (et g0 rfl)) ?_
        refine l_step (y_assignV (et g0 rfl)) ?_
        refine l_nil ?_
        refine hK4 _ _ ?_
        refine fg5 3 2 1 0 8 (gS rfl (gS rfl (gS rfl (gS rfl (gS rfl (gS rfl (gS rfl g0))))))) (gS rfl (gS rfl (gS rfl (gS rfl (gS rfl (gS rfl g0)))))) (gS rfl (gS rfl (gS rfl (gS rfl (gS rfl g0))))) (gS rfl (gS rfl (gS rfl (gS rfl g0)))) g0 (fun g => ?_)
        refine c_seq (fun K5 hK5 => ?_)
        refine c_seq (fun K6 hK6 => ?_)
        exact (by
          refine c_region ?_
          refine l_step (y_moveV (et (gS rfl (gS rfl (gS rfl (gS rfl g0)))) rfl)) ?_
          refine l_step (y_moveV (et (gS rfl g0) rfl)) ?_
          refine l_step (y_moveV (et (gS rfl (gS rfl (gS rfl (gS rfl (gS rfl g0))))) rfl)) ?_
          refine l_step (y_sub (et (gS rfl g0) rfl) (et g0 rfl) (subIN ?_ ?_)) ?_
          omega
          omega
          refine l_step (y_lss (et (gS rfl (gS rfl (gS rfl g0))) rfl) (et g0 rfl)) ?_
          refine l_nil ?_
          refine hK6 _ _ ?_
          refine fg6 3 2 1 0 8 25 (gS rfl (gS rfl (gS rfl (gS rfl (gS rfl (gS rfl (gS rfl (gS rfl (gS rfl g0))))))))) (gS rfl (gS rfl (gS rfl (gS rfl (gS rfl (gS rfl (gS rfl (gS rfl g0)))))))) (gS rfl (gS rfl (gS rfl (gS rfl (gS rfl (gS rfl (gS rfl g0))))))) (gS rfl (gS rfl (gS rfl (gS rfl (gS rfl (gS rfl g0)))))) (gS rfl (gS rfl (gS rfl (gS rfl (gS rfl g0))))) g0 (fun g => ?_)
          refine c_cond (et g0 rfl) (fun cB2 => ?_) (fun cB2 => ?_)
          · skip
            
            have hx9 : kn < l.length - off := by have := of_decide_eq_true cB2; omega
            exact (by
              refine c_region ?_
              refine l_step (y_moveV (et (gS rfl (gS rfl (gS rfl (gS rfl g0)))) rfl)) ?_
              refine l_step (y_moveV (et (gS rfl (gS rfl (gS rfl (gS rfl (gS rfl (gS rfl g0)))))) rfl)) ?_
              refine l_step (y_add (et (gS rfl g0) rfl) (et g0 rfl) (addIN ?_)) ?_
              omega
              refine l_step (y_assignV (et g0 rfl)) ?_
              refine l_nil ?_
              refine hK5 _ _ ?_
              refine fg5 3 2 1 0 8 (gS rfl (gS rfl (gS rfl (gS rfl (gS rfl (gS rfl (gS rfl (gS rfl (gS rfl g0))))))))) (gS rfl (gS rfl (gS rfl (gS rfl (gS rfl (gS rfl (gS rfl (gS rfl g0)))))))) (gS rfl (gS rfl (gS rfl (gS rfl (gS rfl (gS rfl (gS rfl g0))))))) (gS rfl (gS rfl (gS rfl (gS rfl (gS rfl (gS rfl g0)))))) g0 (fun g => ?_)
              refine c_draw Up 10 [(0, true), (1, true), (2, true), (3, true), (4, true), (5, true), (6, true), (7, true), (8, true), (9, true), (10, false)] (by kernel_rfl) (fun w8 hu => ⟨Up.refl _, ?_⟩)
              replace hW := hW.up hu
              replace kB := kB.up hu
              replace U := U.tr hu
              have SU := Up.refl w8
              refine p_step (by exact rfl) (y_moveV (et (gS rfl g0) rfl)) ?_
              refine p_step (by exact rfl) (y_moveV (et (gS rfl (gS rfl g0)) rfl)) ?_
              refine p_step (by exact rfl) (y_len Hvaa.underlying38 (et g0 rfl)) ?_
              refine p_step (by exact rfl) (y_moveV (et (gS rfl (gS rfl (gS rfl (gS rfl (gS rfl (gS rfl (gS rfl g0))))))) rfl)) ?_
              refine p_step (by exact rfl) (y_sub (et (gS rfl g0) rfl) (et g0 rfl) (subIN ?_ ?_)) ?_
              omega
              omega
              refine p_step (by exact rfl) (y_slS100n Hvaa.underlying38 sz_5 (et (gS rfl (gS rfl (gS rfl (gS rfl g0)))) rfl) (et g0 rfl) ?_ ?_) ?_
              omega
              omega
              refine p_step (by exact rfl) (y_moveV (et (gS rfl (gS rfl (gS rfl (gS rfl (gS rfl (gS rfl (gS rfl (gS rfl g0)))))))) rfl)) ?_
              refine p_step (by exact rfl) (y_moveV (et (gS rfl (gS rfl (gS rfl (gS rfl (gS rfl (gS rfl (gS rfl (gS rfl (gS rfl (gS rfl g0)))))))))) rfl)) ?_
              refine p_step (by exact rfl) (y_moveV (et (gS rfl (gS rfl (gS rfl (gS rfl (gS rfl (gS rfl (gS rfl (gS rfl g0)))))))) rfl)) ?_
              refine p_step (by exact rfl) (y_slS110n Hvaa.underlying38 sz_5 (et (gS rfl (gS rfl g0)) rfl) (et (gS rfl g0) rfl) (et g0 rfl) ?_ ?_ ?_) ?_
              omega
              omega
              omega
              exact (by
                have hW2 := WV.drop0 hW (k := off) hlt9
                have hW3 := hW2
                rw [← List.length_drop] at hW3
                replace hW3 := hW3.take' (k := kn) (by rw [List.length_drop]; omega)
                rw [show kn = off + kn - off by omega] at hW3
                refine p_eff (by exact rfl) (e_copyW Hvaa.underlying38 (et (gS rfl (gS rfl (gS rfl (gS rfl g0)))) rfl) (et g0 rfl) hW3 kB (by simp only [List.size_toArray, length_bL, List.length_replicate]; omega)) (fun v9 w9 h9 => ?_)
                obtain ⟨rfl, x9⟩ := h9
                replace hW := hW.ch x9.ch (by first | omega | (intro q hq; omega))
                replace kB := x9.blk
                replace U := U.cc x9.ch (by intro b hb; first | omega | exact .inl hb | exact .inr (hb ▸ U))
                refine ⟨.inl rfl, ?_⟩
                refine p_nil ?_
                refine end0 rfl ?_
                rw [List.take_take, show min (N - (N - kn)) (off + kn - off) = kn by omega, show 0 + (N - kn) * 1 = N - kn by omega, part_spl hW.dig hn] at kB
                exact ⟨rfl, kB, U⟩))
          · skip
            
            have hx9 : ¬ kn < l.length - off := by have := of_decide_eq_false cB2; omega
            refine c_skip ?_
            refine hK5 _ _ ?_
            refine fg5 3 2 1 0 8 (gS rfl (gS rfl (gS rfl (gS rfl (gS rfl g0))))) (gS rfl (gS rfl (gS rfl (gS rfl g0)))) (gS rfl (gS rfl (gS rfl g0))) (gS rfl (gS rfl g0)) (gS rfl g0) (fun g => ?_)
            refine c_draw Up 10 [(0, true), (1, true), (2, true), (3, true), (4, true), (5, true), (6, true), (7, true), (8, true), (9, true), (10, false)] (by kernel_rfl) (fun w10 hu => ⟨Up.refl _, ?_⟩)
            replace hW := hW.up hu
            replace kB := kB.up hu
            replace U := U.tr hu
            have SU := Up.refl w10
            refine p_step (by exact rfl) (y_moveV (et (gS rfl g0) rfl)) ?_
            refine p_step (by exact rfl) (y_moveV (et (gS rfl (gS rfl g0)) rfl)) ?_
            refine p_step (by exact rfl) (y_len Hvaa.underlying38 (et g0 rfl)) ?_
            refine p_step (by exact rfl) (y_moveV (et (gS rfl (gS rfl (gS rfl (gS rfl (gS rfl (gS rfl (gS rfl g0))))))) rfl)) ?_
            refine p_step (by exact rfl) (y_sub (et (gS rfl g0) rfl) (et g0 rfl) (subIN ?_ ?_)) ?_
            omega
            omega
            refine p_step (by exact rfl) (y_slS100n Hvaa.underlying38 sz_5 (et (gS rfl (gS rfl (gS rfl (gS rfl g0)))) rfl) (et g0 rfl) ?_ ?_) ?_
            omega
            omega
            refine p_step (by exact rfl) (y_moveV (et (gS rfl (gS rfl (gS rfl (gS rfl (gS rfl (gS rfl (gS rfl (gS rfl g0)))))))) rfl)) ?_
            refine p_step (by exact rfl) (y_moveV (et (gS rfl (gS rfl (gS rfl (gS rfl (gS rfl (gS rfl (gS rfl (gS rfl (gS rfl (gS rfl g0)))))))))) rfl)) ?_
            refine p_step (by exact rfl) (y_moveV (et (gS rfl (gS rfl (gS rfl (gS rfl (gS rfl (gS rfl (gS rfl (gS rfl g0)))))))) rfl)) ?_
            refine p_step (by exact rfl) (y_slS110n Hvaa.underlying38 sz_5 (et (gS rfl (gS rfl g0)) rfl) (et (gS rfl g0) rfl) (et g0 rfl) ?_ ?_ ?_) ?_
            omega
            omega
            omega
            have hW2 := WV.drop0 hW (k := off) hlt9
            refine p_eff (by exact rfl) (e_copyW Hvaa.underlying38 (et (gS rfl (gS rfl (gS rfl (gS rfl g0)))) rfl) (et g0 rfl) hW2 kB (by simp only [List.size_toArray, length_bL, List.length_replicate]; omega)) (fun v11 w11 h11 => ?_)
            obtain ⟨rfl, x11⟩ := h11
            replace hW := hW.ch x11.ch (by first | omega | (intro q hq; omega))
            replace kB := x11.blk
            replace U := U.cc x11.ch (by intro b hb; first | omega | exact .inl hb | exact .inr (hb ▸ U))
            refine ⟨.inl rfl, ?_⟩
            refine p_nil ?_
            refine end0 rfl ?_
            rw [show N - (N - kn) = kn by omega, show 0 + (N - kn) * 1 = N - kn by omega, part_spl hW.dig hn] at kB
            exact ⟨rfl, kB, U⟩))
    · skip
      have hlt9 : ¬ off < l.length := by have := of_decide_eq_false q2; omega
      refine l_gskip (j := 4) (t := 13) (by exact rfl) (by exact rfl) (et g0 rfl) (by decide) (by decide) ?_
      refine l_gskip (j := 4) (t := 13) (by exact rfl) (by exact rfl) (et (gS rfl g0) rfl) (by decide) (by decide) ?_
      refine l_gskip (j := 4) (t := 13) (by exact rfl) (by exact rfl) (et (gS rfl (gS rfl g0)) rfl) (by decide) (by decide) ?_
      refine l_gskip (j := 4) (t := 13) (by exact rfl) (by exact rfl) (et (gS rfl (gS rfl (gS rfl g0))) rfl) (by decide) (by decide) ?_
      refine l_step (y_pickF (et (gS rfl (gS rfl (gS rfl (gS rfl g0)))) rfl) rfl) ?_
      refine l_nil ?_
      refine hK1 _ _ ?_
      refine fg5 3 2 1 0 18 (gS rfl (gS rfl (gS rfl (gS rfl (gS rfl (gS rfl (gS rfl (gS rfl (gS rfl (gS rfl (gS rfl (gS rfl (gS rfl (gS rfl g0)))))))))))))) (gS rfl (gS rfl (gS rfl (gS rfl (gS rfl (gS rfl (gS rfl (gS rfl (gS rfl (gS rfl (gS rfl (gS rfl (gS rfl g0))))))))))))) (gS rfl (gS rfl (gS rfl (gS rfl (gS rfl (gS rfl (gS rfl (gS rfl (gS rfl (gS rfl (gS rfl (gS rfl g0)))))))))))) (gS rfl (gS rfl (gS rfl (gS rfl (gS rfl (gS rfl (gS rfl (gS rfl (gS rfl (gS rfl (gS rfl g0))))))))))) g0 (fun g => ?_)
      refine c_false (et g0 rfl) rfl ?_
      refine c_skip ?_
      refine end0 rfl ?_
      rw [part_none (l := l) (off := off) (n := kn) (by omega)] at kB
      exact ⟨rfl, kB, U⟩)
theorem m_part0 {w : World} (s0 bb N off kn : Nat) {a : Option Addr} {c : Nat} {l : List Nat} (hW : WV s0 w (.slice a l.length c) l) (hl : l.length ≤ 717280) (kB : Blk w bb (bL (List.replicate N 0)).toArray) (hb0 : s0 ≤ bb) (hN : N ≤ 64) (ho : off < 1099511627776) (hn : kn ≤ N) (hk0 : kn = 0) :
    Ret 251 [.slice (some ⟨bb, 0, none⟩) N N, .slice a l.length c, .int .i64 (off : Nat), .int .i64 (kn : Nat)] w (fun v w' => v = .tuple #[] ∧ Blk w' bb (bL (be N (ofBE (cutN l off kn)))).toArray ∧ Ch (fun q => q = bb) w w') := by
  obtain ⟨_, _, e9, hcl9, hcm9⟩ := hW.val
  cases e9
  refine enter (n := 40) Hvaa.func251 rfl rfl (Nat.le_of_ble_eq_true rfl) ?_
  have U : Ch (fun q => q = bb) w w := Ch.refl _ w
  refine c_seq (fun K1 hK1 => ?_)
  exact (by
    refine c_region ?_
    refine l_step (y_moveV (et (gS rfl (gS rfl g0)) rfl)) ?_
    refine l_step (y_moveV (et (gS rfl (gS rfl g0)) rfl)) ?_
    refine l_step (y_len Hvaa.underlying38 (et g0 rfl)) ?_
    refine l_step (y_lss (et (gS rfl (gS rfl g0)) rfl) (et g0 rfl)) ?_
    refine l_step (y_moveV (et g0 rfl)) ?_
    refine gsplitL (i := 13) g0 (fun q2 => ?_) (fun q2 => ?_)
    · skip
      have hlt9 : off < l.length := by have := of_decide_eq_true q2; omega
      obtain ⟨b0, o0, rfl, hb00, hr0⟩ := hW.at (by omega)
      refine l_gstep (j := 4) (t := 13) (by exact rfl) (by exact rfl) (et g0 rfl) (by decide) (y_moveV (et (gS rfl (gS rfl (gS rfl (gS rfl (gS rfl (gS rfl (gS rfl (gS rfl (gS rfl g0))))))))) rfl)) ?_
      refine l_gstep (j := 4) (t := 13) (by exact rfl) (by exact rfl) (et (gS rfl g0) rfl) (by decide) (y_moveV (et (gS rfl (gS rfl (gS rfl (gS rfl (gS rfl (gS rfl (gS rfl g0))))))) rfl)) ?_
      refine l_gstep (j := 4) (t := 13) (by exact rfl) (by exact rfl) (et (gS rfl (gS rfl g0)) rfl) (by decide) (y_len Hvaa.underlying38 (et g0 rfl)) ?_
      refine l_gstep (j := 4) (t := 13) (by exact rfl) (by exact rfl) (et (gS rfl (gS rfl (gS rfl g0))) rfl) (by decide) (y_leq (et (gS rfl (gS rfl g0)) rfl) (et g0 rfl)) ?_
      refine l_step (y_pickT (et (gS rfl (gS rfl (gS rfl (gS rfl g0)))) rfl) (et g0 rfl)) ?_
      refine l_nil ?_
      refine hK1 _ _ ?_
      refine fg5 3 2 1 0 18 (gS rfl (gS rfl (gS rfl (gS rfl (gS rfl (gS rfl (gS rfl (gS rfl (gS rfl (gS rfl (gS rfl (gS rfl (gS rfl (gS rfl g0)))))))))))))) (gS rfl (gS rfl (gS rfl (gS rfl (gS rfl (gS rfl (gS rfl (gS rfl (gS rfl (gS rfl (gS rfl (gS rfl (gS rfl g0))))))))))))) (gS rfl (gS rfl (gS rfl (gS rfl (gS rfl (gS rfl (gS rfl (gS rfl (gS rfl (gS rfl (gS rfl (gS rfl g0)))))))))))) (gS rfl (gS rfl (gS rfl (gS rfl (gS rfl (gS rfl (gS rfl (gS rfl (gS rfl (gS rfl (gS rfl g0))))))))))) g0 (fun g => ?_)
      refine c_true (et g0 rfl) (by (exact decide_eq_true (by omega))) ?_
      refine c_seq (fun K4 hK4 => ?_)
      exact (by
        refine c_region ?_
        refine l_step (y_moveV (et (gS rfl (gS rfl g0)) rfl)) ?_
        refine l_step (y_len Hvaa.underlying38 (et g0 rfl)) ?_
        refine l_step (y_assignV (et g0 rfl)) ?_
        refine l_nil ?_
        refine hK4 _ _ ?_
        refine fg5 3 2 1 0 8 (gS rfl (gS rfl (gS rfl (gS rfl (gS rfl (gS rfl (gS rfl g0))))))) (gS rfl (gS rfl (gS rfl (gS rfl (gS rfl (gS rfl g0)))))) (gS rfl (gS rfl (gS rfl (gS rfl (gS rfl g0))))) (gS rfl (gS rfl (gS rfl (gS rfl g0)))) g0 (fun g => ?_)
        refine c_seq (fun K5 hK5 => ?_)
        refine c_seq (fun K6 hK6 => ?_)
        exact (by
          refine c_region ?_
          refine l_step (y_moveV (et (gS rfl (gS rfl (gS rfl (gS rfl g0)))) rfl)) ?_
          refine l_step (y_moveV (et (gS rfl g0) rfl)) ?_
          refine l_step (y_moveV (et (gS rfl (gS rfl (gS rfl (gS rfl (gS rfl g0))))) rfl)) ?_
          refine l_step (y_sub (et (gS rfl g0) rfl) (et g0 rfl) (subIN ?_ ?_)) ?_
          omega
          omega
          refine l_step (y_lss (et (gS rfl (gS rfl (gS rfl g0))) rfl) (et g0 rfl)) ?_
          refine l_nil ?_
          refine hK6 _ _ ?_
          refine fg6 3 2 1 0 8 25 (gS rfl (gS rfl (gS rfl (gS rfl (gS rfl (gS rfl (gS rfl (gS rfl (gS rfl g0))))))))) (gS rfl (gS rfl (gS rfl (gS rfl (gS rfl (gS rfl (gS rfl (gS rfl g0)))))))) (gS rfl (gS rfl (gS rfl (gS rfl (gS rfl (gS rfl (gS rfl g0))))))) (gS rfl (gS rfl (gS rfl (gS rfl (gS rfl (gS rfl g0)))))) (gS rfl (gS rfl (gS rfl (gS rfl (gS rfl g0))))) g0 (fun g => ?_)
          refine c_cond (et g0 rfl) (fun cB2 => ?_) (fun cB2 => ?_)
          · skip
            
            have hx9 : kn < l.length - off := by have := of_decide_eq_true cB2; omega
            exact (by
              refine c_region ?_
              refine l_step (y_moveV (et (gS rfl (gS rfl (gS rfl (gS rfl g0)))) rfl)) ?_
              refine l_step (y_moveV (et (gS rfl (gS rfl (gS rfl (gS rfl (gS rfl (gS rfl g0)))))) rfl)) ?_
              refine l_step (y_add (et (gS rfl g0) rfl) (et g0 rfl) (addIN ?_)) ?_
              omega
              refine l_step (y_assignV (et g0 rfl)) ?_
              refine l_nil ?_
              refine hK5 _ _ ?_
              refine fg5 3 2 1 0 8 (gS rfl (gS rfl (gS rfl (gS rfl (gS rfl (gS rfl (gS rfl (gS rfl (gS rfl g0))))))))) (gS rfl (gS rfl (gS rfl (gS rfl (gS rfl (gS rfl (gS rfl (gS rfl g0)))))))) (gS rfl (gS rfl (gS rfl (gS rfl (gS rfl (gS rfl (gS rfl g0))))))) (gS rfl (gS rfl (gS rfl (gS rfl (gS rfl (gS rfl g0)))))) g0 (fun g => ?_)
              refine c_draw Up 10 [(0, true), (1, true), (2, true), (3, true), (4, true), (5, true), (6, true), (7, true), (8, true), (9, true), (10, false)] (by kernel_rfl) (fun w8 hu => ⟨Up.refl _, ?_⟩)
              replace hW := hW.up hu
              replace kB := kB.up hu
              replace U := U.tr hu
              have SU := Up.refl w8
              refine p_step (by exact rfl) (y_moveV (et (gS rfl g0) rfl)) ?_
              refine p_step (by exact rfl) (y_moveV (et (gS rfl (gS rfl g0)) rfl)) ?_
              refine p_step (by exact rfl) (y_len Hvaa.underlying38 (et g0 rfl)) ?_
              refine p_step (by exact rfl) (y_moveV (et (gS rfl (gS rfl (gS rfl (gS rfl (gS rfl (gS rfl (gS rfl g0))))))) rfl)) ?_
              refine p_step (by exact rfl) (y_sub (et (gS rfl g0) rfl) (et g0 rfl) (subIN ?_ ?_)) ?_
              omega
              omega
              refine p_step (by exact rfl) ((y_slS100g Hvaa.underlying38 sz_5 (et (gS rfl (gS rfl (gS rfl (gS rfl g0)))) rfl) (et g0 rfl) ?_ ?_).to (show _ = Value.slice (some ⟨bb, 0, none⟩) 0 0 from by rw [hk0]; simp)) ?_
              omega
              omega
              refine p_step (by exact rfl) (y_moveV (et (gS rfl (gS rfl (gS rfl (gS rfl (gS rfl (gS rfl (gS rfl (gS rfl g0)))))))) rfl)) ?_
              refine p_step (by exact rfl) (y_moveV (et (gS rfl (gS rfl (gS rfl (gS rfl (gS rfl (gS rfl (gS rfl (gS rfl (gS rfl (gS rfl g0)))))))))) rfl)) ?_
              refine p_step (by exact rfl) (y_moveV (et (gS rfl (gS rfl (gS rfl (gS rfl (gS rfl (gS rfl (gS rfl (gS rfl g0)))))))) rfl)) ?_
              refine p_step (by exact rfl) (y_slS110n Hvaa.underlying38 sz_5 (et (gS rfl (gS rfl g0)) rfl) (et (gS rfl g0) rfl) (et g0 rfl) ?_ ?_ ?_) ?_
              omega
              omega
              omega
              exact (by
                have hW2 := WV.drop0 hW (k := off) hlt9
                have hW3 := hW2
                rw [← List.length_drop] at hW3
                replace hW3 := hW3.take' (k := kn) (by rw [List.length_drop]; omega)
                rw [show kn = off + kn - off by omega] at hW3
                refine p_eff (by exact rfl) (e_copyW Hvaa.underlying38 (et (gS rfl (gS rfl (gS rfl (gS rfl g0)))) rfl) (et g0 rfl) hW3 kB (by simp only [List.size_toArray, length_bL, List.length_replicate]; omega)) (fun v9 w9 h9 => ?_)
                obtain ⟨rfl, x9⟩ := h9
                replace hW := hW.ch x9.ch (by first | omega | (intro q hq; omega))
                replace kB := x9.blk
                replace U := U.cc x9.ch (by intro b hb; first | omega | exact .inl hb | exact .inr (hb ▸ U))
                refine ⟨.inl rfl, ?_⟩
                refine p_nil ?_
                refine end0 rfl ?_
                rw [List.take_zero] at kB
                replace kB : Blk _ bb (bL (List.replicate N 0)).toArray := kB
                rw [part_none (l := l) (off := off) (n := kn) (by omega)] at kB
                exact ⟨rfl, kB, U⟩))
          · skip
            
            have hx9 : ¬ kn < l.length - off := by have := of_decide_eq_false cB2; omega
            refine c_skip ?_
            refine hK5 _ _ ?_
            refine fg5 3 2 1 0 8 (gS rfl (gS rfl (gS rfl (gS rfl (gS rfl g0))))) (gS rfl (gS rfl (gS rfl (gS rfl g0)))) (gS rfl (gS rfl (gS rfl g0))) (gS rfl (gS rfl g0)) (gS rfl g0) (fun g => ?_)
            refine c_draw Up 10 [(0, true), (1, true), (2, true), (3, true), (4, true), (5, true), (6, true), (7, true), (8, true), (9, true), (10, false)] (by kernel_rfl) (fun w10 hu => ⟨Up.refl _, ?_⟩)
            replace hW := hW.up hu
            replace kB := kB.up hu
            replace U := U.tr hu
            have SU := Up.refl w10
            refine p_step (by exact rfl) (y_moveV (et (gS rfl g0) rfl)) ?_
            refine p_step (by exact rfl) (y_moveV (et (gS rfl (gS rfl g0)) rfl)) ?_
            refine p_step (by exact rfl) (y_len Hvaa.underlying38 (et g0 rfl)) ?_
            refine p_step (by exact rfl) (y_moveV (et (gS rfl (gS rfl (gS rfl (gS rfl (gS rfl (gS rfl (gS rfl g0))))))) rfl)) ?_
            refine p_step (by exact rfl) (y_sub (et (gS rfl g0) rfl) (et g0 rfl) (subIN ?_ ?_)) ?_
            omega
            omega
            refine p_step (by exact rfl) ((y_slS100g Hvaa.underlying38 sz_5 (et (gS rfl (gS rfl (gS rfl (gS rfl g0)))) rfl) (et g0 rfl) ?_ ?_).to (show _ = Value.slice (some ⟨bb, 0, none⟩) 0 0 from by rw [hk0]; simp)) ?_
            omega
            omega
            refine p_step (by exact rfl) (y_moveV (et (gS rfl (gS rfl (gS rfl (gS rfl (gS rfl (gS rfl (gS rfl (gS rfl g0)))))))) rfl)) ?_
            refine p_step (by exact rfl) (y_moveV (et (gS rfl (gS rfl (gS rfl (gS rfl (gS rfl (gS rfl (gS rfl (gS rfl (gS rfl (gS rfl g0)))))))))) rfl)) ?_
            refine p_step (by exact rfl) (y_moveV (et (gS rfl (gS rfl (gS rfl (gS rfl (gS rfl (gS rfl (gS rfl (gS rfl g0)))))))) rfl)) ?_
            refine p_step (by exact rfl) (y_slS110n Hvaa.underlying38 sz_5 (et (gS rfl (gS rfl g0)) rfl) (et (gS rfl g0) rfl) (et g0 rfl) ?_ ?_ ?_) ?_
            omega
            omega
            omega
            have hW2 := WV.drop0 hW (k := off) hlt9
            refine p_eff (by exact rfl) (e_copyW Hvaa.underlying38 (et (gS rfl (gS rfl (gS rfl (gS rfl g0)))) rfl) (et g0 rfl) hW2 kB (by simp only [List.size_toArray, length_bL, List.length_replicate]; omega)) (fun v11 w11 h11 => ?_)
            obtain ⟨rfl, x11⟩ := h11
            replace hW := hW.ch x11.ch (by first | omega | (intro q hq; omega))
            replace kB := x11.blk
            replace U := U.cc x11.ch (by intro b hb; first | omega | exact .inl hb | exact .inr (hb ▸ U))
            refine ⟨.inl rfl, ?_⟩
            refine p_nil ?_
            refine end0 rfl ?_
            rw [List.take_zero] at kB
            replace kB : Blk _ bb (bL (List.replicate N 0)).toArray := kB
            rw [part_none (l := l) (off := off) (n := kn) (by omega)] at kB
            exact ⟨rfl, kB, U⟩))
    · skip
      have hlt9 : ¬ off < l.length := by have := of_decide_eq_false q2; omega
      refine l_gskip (j := 4) (t := 13) (by exact rfl) (by exact rfl) (et g0 rfl) (by decide) (by decide) ?_
      refine l_gskip (j := 4) (t := 13) (by exact rfl) (by exact rfl) (et (gS rfl g0) rfl) (by decide) (by decide) ?_
      refine l_gskip (j := 4) (t := 13) (by exact rfl) (by exact rfl) (et (gS rfl (gS rfl g0)) rfl) (by decide) (by decide) ?_
      refine l_gskip (j := 4) (t := 13) (by exact rfl) (by exact rfl) (et (gS rfl (gS rfl (gS rfl g0))) rfl) (by decide) (by decide) ?_
      refine l_step (y_pickF (et (gS rfl (gS rfl (gS rfl (gS rfl g0)))) rfl) rfl) ?_
      refine l_nil ?_
      refine hK1 _ _ ?_
      refine fg5 3 2 1 0 18 (gS rfl (gS rfl (gS rfl (gS rfl (gS rfl (gS rfl (gS rfl (gS rfl (gS rfl (gS rfl (gS rfl (gS rfl (gS rfl (gS rfl g0)))))))))))))) (gS rfl (gS rfl (gS rfl (gS rfl (gS rfl (gS rfl (gS rfl (gS rfl (gS rfl (gS rfl (gS rfl (gS rfl (gS rfl g0))))))))))))) (gS rfl (gS rfl (gS rfl (gS rfl (gS rfl (gS rfl (gS rfl (gS rfl (gS rfl (gS rfl (gS rfl (gS rfl g0)))))))))))) (gS rfl (gS rfl (gS rfl (gS rfl (gS rfl (gS rfl (gS rfl (gS rfl (gS rfl (gS rfl (gS rfl g0))))))))))) g0 (fun g => ?_)
      refine c_false (et g0 rfl) rfl ?_
      refine c_skip ?_
      refine end0 rfl ?_
      rw [part_none (l := l) (off := off) (n := kn) (by omega)] at kB
      exact ⟨rfl, kB, U⟩)
theorem m_part {w : World} (s0 bb N off kn : Nat) {a : Option Addr} {c : Nat} {l : List Nat} (hW : WV s0 w (.slice a l.length c) l) (hl : l.length ≤ 717280) (kB : Blk w bb (bL (List.replicate N 0)).toArray) (hb0 : s0 ≤ bb) (hN : N ≤ 64) (ho : off < 1099511627776) (hn : kn ≤ N) : Ret 251 [.slice (some ⟨bb, 0, none⟩) N N, .slice a l.length c, .int .i64 (off : Nat), .int .i64 (kn : Nat)] w (fun v w' => v = .tuple #[] ∧ Blk w' bb (bL (be N (ofBE (cutN l off kn)))).toArray ∧ Ch (fun q => q = bb) w w') := by
  rcases Nat.eq_zero_or_pos kn with h | h
  · exact m_part0 s0 bb N off kn hW hl kB hb0 hN ho hn h
  · exact m_part1 s0 bb N off kn hW hl kB hb0 hN ho hn h
theorem be64_limb (b x i : Nat) (w : World) (kB : Blk w b (bL (be 64 x)).toArray) (hi : i < 8) : Ret 156 [.slice (some ⟨b, 0, none⟩) 64 64, .int .i64 ((56 - 8 * i : Nat) : Int)] w (fun v w' => v = .tuple #[.int .u64 (limb x i : Nat), .bool true] ∧ Up w w') := by
  rw [← limb_be]
  exact be64_l b 0 64 64 (56 - 8 * i) _ w (by omega) (by omega) (by omega) (length_be _ _) (be_lt _ _) (by rw [← be64_at hi]; exact Row.eq9 (kB.bytes _ _) (by omega))
theorem m_lengths {w : World} (s0 : Nat) {a : Option Addr} {c : Nat} {l : List Nat} (hW : WV s0 w (.slice a l.length c) l) (hs0 : s0 ≤ w.heap.size) (hl : l.length ≤ 717280) :
    Ret 250 [(.slice a l.length c)] w (fun v w' => v = .tuple #[.int .i64 (lnV l 0 : Nat), .int .i64 (lnV l 1 : Nat), .int .i64 (lnV l 2 : Nat), .bool (lnOk l)] ∧ Up w w') := by
  obtain ⟨_, _, e9, hcl9, hcm9⟩ := hW.val
  cases e9
  refine enter (n := 42) Hvaa.func250 rfl rfl (Nat.le_of_ble_eq_true rfl) ?_
  have U := Up.refl w
  refine c_seq (fun K1 hK1 => ?_)
  exact (by
    refine c_region ?_
    refine l_step y_assignC ?_
    refine l_step y_assignC ?_
    refine l_step y_assignC ?_
    refine l_step y_assignC ?_
    refine l_nil ?_
    refine hK1 _ _ ?_
    refine fg1 0 (gS rfl (gS rfl (gS rfl (gS rfl g0)))) (fun g => ?_)
    refine c_seq (fun K2 hK2 => ?_)
    exact (by
      refine c_region ?_
      refine l_eff (e_alloc zr_403) (fun v3 w3 h3 => ?_)
      obtain ⟨b3, rfl, n3⟩ := h3
      have f3 : w.heap.size ≤ b3 := Nat.le_trans U.size n3.fresh
      replace hW := hW.up n3.up
      replace U := U.tr n3.up
      have k3 := n3.blk
      refine l_nil ?_
      refine hK2 _ _ ?_
      refine c_seq (fun K4 hK4 => ?_)
      refine c_seq (fun K5 hK5 => ?_)
      exact (by
        refine c_region ?_
        refine l_step y_moveC ?_
        refine l_nil ?_
        refine hK5 _ _ ?_
        refine c_block (fun Q6 hQ6 => ?_)
        refine fg3 0 6 11 (gS rfl (gS rfl g0)) (gS rfl g0) g0 (fun g => ?_)
        refine c_loop (fun k_ s_ W7 => ∃ (g : Nat → Value) (i : Nat), s_ = (upd (upd (upd g 0 (.slice a l.length c)) 6 (.pointer (some ⟨b3, 0, none⟩))) 11 (.int .i64 (i : Nat))) ∧ 3 - i = k_ ∧ (i ≤ 3) ∧ (∀ j, j < i → lnN l j ≤ 64) ∧ Blk W7 b3 (((List.range i).map (fun j => Value.int .i64 (lnN l j : Nat)) ++ List.replicate (3 - i) (Value.int .i64 0)).toArray) ∧ Ch (fun k => k = b3) w3 W7) (3 - (0)) ?_ ?_
        · exact ⟨g, 0, rfl, rfl, by omega, fun j hj => absurd hj (Nat.not_lt_zero _), k3, Ch.refl _ _⟩
        · skip
          intro k_ s_ W7 hI K7 hK7
          obtain ⟨g, i, rfl, rfl, hi, hln, nk3, V7⟩ := hI
          replace hW := hW.ch V7 (by first | omega | (intro q hq; omega))
          replace k3 := nk3
          replace U := U.cc V7 (by intro b hb; first | exact hb.elim | omega | (simp at hb ⊢; omega))
          refine c_seq (fun K8 hK8 => ?_)
          exact (by
            refine c_region ?_
            refine l_step (y_lss (et g0 rfl) rfl) ?_
            refine l_nil ?_
            refine hK8 _ _ ?_
            refine c_seq (fun K9 hK9 => ?_)
            refine c_cond (et g0 rfl) (fun cB1 => ?_) (fun cB1 => ?_)
            · skip
              
              have hi3 : i < 3 := by have := of_decide_eq_true cB1; omega
              refine c_skip ?_
              refine hK9 _ _ ?_
              refine fg3 0 6 11 (gS rfl (gS rfl (gS rfl g0))) (gS rfl (gS rfl g0)) (gS rfl g0) (fun g => ?_)
              refine c_seq (fun K11 hK11 => ?_)
              refine c_block (fun Q12 hQ12 => ?_)
              refine c_seq (fun K13 hK13 => ?_)
              exact (by
                refine c_region ?_
                refine l_step (y_moveV (et g0 rfl)) ?_
                refine l_step (y_assignV (et g0 rfl)) ?_
                refine l_nil ?_
                refine hK13 _ _ ?_
                refine fg4 0 6 11 7 (gS rfl (gS rfl (gS rfl (gS rfl g0)))) (gS rfl (gS rfl (gS rfl g0))) (gS rfl (gS rfl g0)) g0 (fun g => ?_)
                refine c_seq (fun K14 hK14 => ?_)
                exact (by
                  refine c_region ?_
                  refine l_eff (e_alloc zr_27) (fun v15 w15 h15 => ?_)
                  obtain ⟨b15, rfl, n15⟩ := h15
                  have d3_15 : b3 < b15 := Nat.lt_of_lt_of_le k3.lt n15.fresh
                  have f15 : w.heap.size ≤ b15 := Nat.le_trans U.size n15.fresh
                  have fV7_15 := Nat.le_trans V7.size n15.fresh
                  replace k3 := k3.up n15.up
                  replace hW := hW.up n15.up
                  replace U := U.tr n15.up
                  replace V7 := V7.tr n15.up
                  have k15 := n15.blk
                  replace k15 : Blk w15 b15 (bL (List.replicate 32 0)).toArray := k15
                  refine l_nil ?_
                  refine hK14 _ _ ?_
                  refine c_seq (fun K16 hK16 => ?_)
                  exact (by
                    refine c_region ?_
                    refine l_step (y_slA000 Hvaa.underlying27 sz_5 (et g0 rfl) ) ?_
                    refine l_step (y_moveV (et (gS rfl (gS rfl (gS rfl (gS rfl (gS rfl g0))))) rfl)) ?_
                    refine l_step (y_moveV (et (gS rfl (gS rfl (gS rfl g0))) rfl)) ?_
                    refine l_step (y_mul rfl (et g0 rfl) (mulIN (x := 32) ?_)) ?_
                    omega
                    refine l_eff (e_callV cal_251 (aC (et (gS rfl (gS rfl (gS rfl g0))) rfl) (aC (et (gS rfl (gS rfl g0)) rfl) (aC (et g0 rfl) (aC (v := .int .i64 ((32 : Nat) : Int)) rfl aN)))) (m_part s0 b15 32 (32 * i) 32 hW (by omega) k15 (Nat.le_trans hs0 f15) (by decide) (by omega) (by decide))) (fun v17 w17 h17 => ?_)
                    obtain ⟨rfl, kb17, x17⟩ := h17
                    replace k3 := k3.ch x17 (by omega)
                    replace hW := hW.ch x17 (by first | omega | (intro q hq; omega))
                    replace k15 := kb17
                    replace V7 := V7.cc x17 (by intro b hb; first | omega | (simp at hb ⊢; omega) | (have := hOo.lim b hb.symm; omega))
                    replace U := U.cc x17 (by intro b hb; first | exact hb ▸ f15 | omega)
                    refine l_nil ?_
                    refine hK16 _ _ ?_
                    refine fg5 0 6 11 7 8 (gS rfl (gS rfl (gS rfl (gS rfl (gS rfl (gS rfl (gS rfl (gS rfl (gS rfl g0))))))))) (gS rfl (gS rfl (gS rfl (gS rfl (gS rfl (gS rfl (gS rfl (gS rfl g0)))))))) (gS rfl (gS rfl (gS rfl (gS rfl (gS rfl (gS rfl (gS rfl g0))))))) (gS rfl (gS rfl (gS rfl (gS rfl (gS rfl (gS rfl g0)))))) (gS rfl (gS rfl (gS rfl (gS rfl (gS rfl g0))))) (fun g => ?_)
                    refine c_seq (fun K18 hK18 => ?_)
                    exact (by
                      refine c_region ?_
                      refine l_step (y_loadB agg_27 sz_27 (et g0 rfl) (by rw [List.size_toArray, length_bL, length_be]) (at1B k15)) ?_
                      refine l_eff (e_callV cal_83 (aC (et g0 rfl) aN) (fromBytes_spec _ _)) (fun v19 w19 h19 => ?_)
                      obtain ⟨rfl, u19⟩ := h19
                      replace k3 := k3.up u19
                      replace k15 := k15.up u19
                      replace hW := hW.up u19
                      replace U := U.tr u19
                      replace V7 := V7.tr u19
                      refine l_eff (e_callV cal_300 (aC (et g0 rfl) aN) (wU64_lo _ _ (show ofBE (cutN l (32 * i) 32) < W256 from cut_lt hW.dig _ 32))) (fun v20 w20 h20 => ?_)
                      obtain ⟨rfl, u20⟩ := h20
                      replace k3 := k3.up u20
                      replace k15 := k15.up u20
                      replace hW := hW.up u20
                      replace U := U.tr u20
                      replace V7 := V7.tr u20
                      refine l_step (y_moveV (et g0 rfl)) ?_
                      refine l_step (y_ext (et g0 rfl) rfl) ?_
                      refine l_step (y_ext (et (gS rfl g0) rfl) rfl) ?_
                      refine l_step (y_assignV (et (gS rfl g0) rfl)) ?_
                      refine l_step (y_assignV (et (gS rfl g0) rfl)) ?_
                      refine l_nil ?_
                      refine hK18 _ _ ?_
                      refine fg6 0 6 11 7 9 10 (gS rfl (gS rfl (gS rfl (gS rfl (gS rfl (gS rfl (gS rfl (gS rfl (gS rfl (gS rfl (gS rfl (gS rfl g0)))))))))))) (gS rfl (gS rfl (gS rfl (gS rfl (gS rfl (gS rfl (gS rfl (gS rfl (gS rfl (gS rfl (gS rfl g0))))))))))) (gS rfl (gS rfl (gS rfl (gS rfl (gS rfl (gS rfl (gS rfl (gS rfl (gS rfl (gS rfl g0)))))))))) (gS rfl (gS rfl (gS rfl (gS rfl (gS rfl (gS rfl (gS rfl (gS rfl (gS rfl g0))))))))) (gS rfl g0) g0 (fun g => ?_)
                      refine c_seq (fun K21 hK21 => ?_)
                      refine c_seq (fun K22 hK22 => ?_)
                      exact (by
                        refine c_region ?_
                        refine l_step (y_moveV (et g0 rfl)) ?_
                        refine l_step (y_not (et g0 rfl)) ?_
                        refine l_step (y_moveV (et g0 rfl)) ?_
                        refine gsplitL (i := 27) g0 (fun q23 => ?_) (fun q23 => ?_)
                        · skip
                          have hgt : 64 < lnN l i := by
                            have h9 : ¬ lnN l i < 18446744073709551616 := by simpa [lnN] using q23
                            omega
                          refine l_gskip (j := 2) (t := 27) (by exact rfl) (by exact rfl) (et g0 rfl) (by decide) (by decide) ?_
                          refine l_gskip (j := 2) (t := 27) (by exact rfl) (by exact rfl) (et (gS rfl g0) rfl) (by decide) (by decide) ?_
                          refine l_step (y_pickT (et (gS rfl (gS rfl g0)) rfl) rfl) ?_
                          refine l_nil ?_
                          refine hK22 _ _ ?_
                          refine fg6 0 6 11 7 9 30 (gS rfl (gS rfl (gS rfl (gS rfl (gS rfl (gS rfl (gS rfl (gS rfl (gS rfl (gS rfl (gS rfl (gS rfl g0)))))))))))) (gS rfl (gS rfl (gS rfl (gS rfl (gS rfl (gS rfl (gS rfl (gS rfl (gS rfl (gS rfl (gS rfl g0))))))))))) (gS rfl (gS rfl (gS rfl (gS rfl (gS rfl (gS rfl (gS rfl (gS rfl (gS rfl (gS rfl g0)))))))))) (gS rfl (gS rfl (gS rfl (gS rfl (gS rfl (gS rfl (gS rfl (gS rfl (gS rfl g0))))))))) (gS rfl (gS rfl (gS rfl (gS rfl (gS rfl (gS rfl (gS rfl (gS rfl g0)))))))) g0 (fun g => ?_)
                          refine c_true (et g0 rfl) rfl ?_
                          refine c_seq (fun K25 hK25 => ?_)
                          exact (by
                            refine c_region ?_
                            refine l_step y_assignC ?_
                            refine l_step y_assignC ?_
                            refine l_step y_assignC ?_
                            refine l_step y_assignC ?_
                            refine l_nil ?_
                            refine hK25 _ _ ?_
                            refine fg4 2 3 4 5 (gS rfl (gS rfl (gS rfl g0))) (gS rfl (gS rfl g0)) (gS rfl g0) g0 (fun g => ?_)
                            refine c_ret ?_
                            refine hQ12 _ _ _ (in_ret ?_)
                            refine hQ6 _ _ _ (in_ret ?_)
                            repeat with_reducible refine then_ret ?_
                            refine ret4 rfl (res_tmp (et (gS rfl (gS rfl (gS rfl g0))) rfl)) (res_tmp (et (gS rfl (gS rfl g0)) rfl)) (res_tmp (et (gS rfl g0) rfl)) (res_tmp (et g0 rfl)) ?_
                            have e9 := lnOk_no hi3 hgt
                            exact ⟨by simp only [lnV, e9]; rfl, U⟩)
                        · skip
                          have hfit : lnN l i < 18446744073709551616 := by simpa [lnN] using q23
                          have hlo : lo64 (ofBE (cutN l (32 * i) 32)) = lnN l i := if_pos hfit
                          refine l_gstep (j := 2) (t := 27) (by exact rfl) (by exact rfl) (et g0 rfl) (by decide) (y_moveV (et (gS rfl (gS rfl (gS rfl (gS rfl (gS rfl g0))))) rfl)) ?_
                          refine l_gstep (j := 2) (t := 27) (by exact rfl) (by exact rfl) (et (gS rfl g0) rfl) (by decide) (y_gtr (et g0 rfl) rfl) ?_
                          refine l_step (y_pickF (et (gS rfl (gS rfl g0)) rfl) (et g0 rfl)) ?_
                          refine l_nil ?_
                          refine hK22 _ _ ?_
                          refine fg6 0 6 11 7 9 30 (gS rfl (gS rfl (gS rfl (gS rfl (gS rfl (gS rfl (gS rfl (gS rfl (gS rfl (gS rfl (gS rfl (gS rfl g0)))))))))))) (gS rfl (gS rfl (gS rfl (gS rfl (gS rfl (gS rfl (gS rfl (gS rfl (gS rfl (gS rfl (gS rfl g0))))))))))) (gS rfl (gS rfl (gS rfl (gS rfl (gS rfl (gS rfl (gS rfl (gS rfl (gS rfl (gS rfl g0)))))))))) (gS rfl (gS rfl (gS rfl (gS rfl (gS rfl (gS rfl (gS rfl (gS rfl (gS rfl g0))))))))) (gS rfl (gS rfl (gS rfl (gS rfl (gS rfl (gS rfl (gS rfl (gS rfl g0)))))))) g0 (fun g => ?_)
                          refine c_cond (et g0 rfl) (fun cB2 => ?_) (fun cB2 => ?_)
                          · skip
                            rw [hlo] at cB2
                            have hgt : 64 < lnN l i := by have := of_decide_eq_true cB2; omega
                            refine c_seq (fun K27 hK27 => ?_)
                            exact (by
                              refine c_region ?_
                              refine l_step y_assignC ?_
                              refine l_step y_assignC ?_
                              refine l_step y_assignC ?_
                              refine l_step y_assignC ?_
                              refine l_nil ?_
                              refine hK27 _ _ ?_
                              refine fg4 2 3 4 5 (gS rfl (gS rfl (gS rfl g0))) (gS rfl (gS rfl g0)) (gS rfl g0) g0 (fun g => ?_)
                              refine c_ret ?_
                              refine hQ12 _ _ _ (in_ret ?_)
                              refine hQ6 _ _ _ (in_ret ?_)
                              repeat with_reducible refine then_ret ?_
                              refine ret4 rfl (res_tmp (et (gS rfl (gS rfl (gS rfl g0))) rfl)) (res_tmp (et (gS rfl (gS rfl g0)) rfl)) (res_tmp (et (gS rfl g0) rfl)) (res_tmp (et g0 rfl)) ?_
                              have e9 := lnOk_no hi3 hgt
                              exact ⟨by simp only [lnV, e9]; rfl, U⟩)
                          · skip
                            rw [hlo] at cB2
                            have hgt : lnN l i ≤ 64 := by have := of_decide_eq_false cB2; omega
                            refine c_skip ?_
                            refine hK21 _ _ ?_
                            refine fg5 0 6 11 7 9 (gS rfl (gS rfl (gS rfl (gS rfl (gS rfl g0))))) (gS rfl (gS rfl (gS rfl (gS rfl g0)))) (gS rfl (gS rfl (gS rfl g0))) (gS rfl (gS rfl g0)) (gS rfl g0) (fun g => ?_)
                            refine c_region ?_
                            refine l_step (y_moveV (et (gS rfl g0) rfl)) ?_
                            refine l_step (y_moveV (et (gS rfl g0) rfl)) ?_
                            refine l_step (y_conv Hvaa.underlying26 Hvaa.underlying3 (et g0 rfl) (wrapIN ?_)) ?_
                            (rw [hlo]; omega)
                            refine l_step (y_idxA Hvaa.underlying403 sz_3 (et (gS rfl (gS rfl (gS rfl (gS rfl (gS rfl (gS rfl g0)))))) rfl) (et (gS rfl (gS rfl g0)) rfl) ?_ ?_) ?_
                            omega
                            omega
                            refine l_effN (e_store sz_3 (et g0 rfl) (cellsV (et (gS rfl g0) rfl) rfl) rfl (by first | exact one_bL _ | exact one_uL _ | (intro v hv; simp at hv; subst hv; rfl)) k3 (by (simp; omega))) (fun v28 w28 h28 => ?_)
                            obtain ⟨rfl, x28⟩ := h28
                            replace k15 := k15.ch x28.ch (by omega)
                            replace hW := hW.ch x28.ch (by first | omega | (first | omega | (intro q hq; omega)))
                            replace k3 := x28.blk
                            replace U := U.st x28 f3
                            replace V7 := V7.st x28 (by omega)
                            replace k3 : Blk w28 b3 ((List.range (i + 1)).map (fun j => Value.int .i64 (lnN l j : Nat)) ++ List.replicate (3 - (i + 1)) (Value.int .i64 0)).toArray := by
                              have h9 := k3
                              rw [hlo, show (0 : Nat) + ((i : Nat) : Int).toNat * 1 = 0 + i * 1 from rfl, fill_nxt (by simp) hi3] at h9
                              rw [List.range_succ, List.map_append]
                              exact h9
                            refine l_nil ?_
                            refine hQ12 _ _ _ (in_normal ?_)
                            refine hK11 _ _ ?_
                            refine fg3 0 6 11 (gS rfl (gS rfl (gS rfl (gS rfl (gS rfl (gS rfl (gS rfl (gS rfl g0)))))))) (gS rfl (gS rfl (gS rfl (gS rfl (gS rfl (gS rfl (gS rfl g0))))))) (gS rfl (gS rfl (gS rfl (gS rfl (gS rfl (gS rfl g0)))))) (fun g => ?_)
                            refine c_region ?_
                            refine l_step (y_add (et g0 rfl) rfl (addIN (y := 1) ?_)) ?_
                            omega
                            exact (by
                              refine l_step (y_moveV (et g0 rfl)) ?_
                              refine l_nil ?_
                              refine fK3 0 6 11 (gS rfl (gS rfl (gS rfl (gS rfl g0)))) (gS rfl (gS rfl (gS rfl g0))) g0 (fun g => ?_)
                              exact hK7 (3 - ((i + 1))) _ _ (by omega) ⟨g, (i + 1), rfl, rfl, by omega, fun j hj => (show j < i ∨ j = i by omega).elim (fun h9 => hln j h9) (fun h9 => by rw [h9]; exact hgt), k3, V7⟩))))))
            · skip
              
              have hi3 : i = 3 := by have := of_decide_eq_false cB1; omega
              subst hi3
              refine c_exit ?_
              refine hQ6 _ _ _ (in_exit ?_)
              refine hK4 _ _ ?_
              refine fg1 6 (gS rfl (gS rfl g0)) (fun g => ?_)
              refine c_seq (fun K29 hK29 => ?_)
              exact (by
                refine c_draw Up 10 [(0, true), (1, true), (2, true), (3, true), (4, true), (5, true), (6, true), (7, true), (8, true), (9, true)] (by kernel_rfl) (fun w30 hu => ⟨Up.refl _, ?_⟩)
                replace k3 := k3.up hu
                replace hW := hW.up hu
                replace U := U.tr hu
                have SU := Up.refl w30
                refine p_step (by exact rfl) (y_idxAC 0 0 Hvaa.underlying403 sz_3 (et g0 rfl) rfl rfl rfl) ?_
                refine p_step (by exact rfl) (y_load1 one_3 (et g0 rfl) (atS (k3.cell rfl))) ?_
                refine p_step (by exact rfl) (y_idxAC 1 1 Hvaa.underlying403 sz_3 (et (gS rfl (gS rfl g0)) rfl) rfl rfl rfl) ?_
                refine p_step (by exact rfl) (y_load1 one_3 (et g0 rfl) (atS (k3.cell rfl))) ?_
                refine p_step (by exact rfl) (y_idxAC 2 2 Hvaa.underlying403 sz_3 (et (gS rfl (gS rfl (gS rfl (gS rfl g0)))) rfl) rfl rfl rfl) ?_
                refine p_step (by exact rfl) (y_load1 one_3 (et g0 rfl) (atS (k3.cell rfl))) ?_
                refine p_step (by exact rfl) (y_assignV (et (gS rfl (gS rfl (gS rfl (gS rfl g0)))) rfl)) ?_
                refine p_step (by exact rfl) (y_assignV (et (gS rfl (gS rfl (gS rfl g0))) rfl)) ?_
                refine p_step (by exact rfl) (y_assignV (et (gS rfl (gS rfl g0)) rfl)) ?_
                refine p_step (by exact rfl) y_assignC ?_
                refine p_nil ?_
                refine hK29 _ _ ?_
                refine fg4 2 3 4 5 (gS rfl (gS rfl (gS rfl g0))) (gS rfl (gS rfl g0)) (gS rfl g0) g0 (fun g => ?_)
                refine c_ret ?_
                repeat with_reducible refine then_ret ?_
                refine ret4 rfl (res_tmp (et (gS rfl (gS rfl (gS rfl g0))) rfl)) (res_tmp (et (gS rfl (gS rfl g0)) rfl)) (res_tmp (et (gS rfl g0) rfl)) (res_tmp (et g0 rfl)) ?_
                have e9 := lnOk_of hln
                exact ⟨by simp only [lnV, e9, if_true]; rfl, U⟩)))))
theorem m_operand {w : World} (s0 : Nat) {a : Option Addr} {c : Nat} {l : List Nat} (hW : WV s0 w (.slice a l.length c) l) (hs0 : s0 ≤ w.heap.size) (hl : l.length ≤ 717280) (off kn : Nat) (ho : off < 1099511627776) (hkn : kn ≤ 64) :
    Ret 261 [(.slice a l.length c), .int .i64 (off : Nat), .int .i64 (kn : Nat)] w (fun v w' => v = .agg (uL ((List.range 8).map (limb (ofBE (cutN l off kn))))).toArray ∧ Up w w') := by
  obtain ⟨_, _, e9, hcl9, hcm9⟩ := hW.val
  cases e9
  refine enter (n := 33) Hvaa.func261 rfl rfl (Nat.le_of_ble_eq_true rfl) ?_
  have U := Up.refl w
  refine c_seq (fun K1 hK1 => ?_)
  exact (by
    refine c_region ?_
    refine l_eff (e_alloc zr_336) (fun v2 w2 h2 => ?_)
    obtain ⟨b2, rfl, n2⟩ := h2
    have f2 : w.heap.size ≤ b2 := Nat.le_trans U.size n2.fresh
    replace hW := hW.up n2.up
    replace U := U.tr n2.up
    have k2 := n2.blk
    obtain ⟨zs2, hz2, k2⟩ : ∃ cs : Array Value, cs.size = 8 ∧ Blk w2 b2 cs := ⟨_, rfl, k2⟩
    refine l_nil ?_
    refine hK1 _ _ ?_
    refine c_seq (fun K3 hK3 => ?_)
    exact (by
      refine c_region ?_
      refine l_eff (e_alloc zr_340) (fun v4 w4 h4 => ?_)
      obtain ⟨b4, rfl, n4⟩ := h4
      have d2_4 : b2 < b4 := Nat.lt_of_lt_of_le k2.lt n4.fresh
      have f4 : w.heap.size ≤ b4 := Nat.le_trans U.size n4.fresh
      replace k2 := k2.up n4.up
      replace hW := hW.up n4.up
      replace U := U.tr n4.up
      have k4 := n4.blk
      replace k4 : Blk w4 b4 (bL (List.replicate 64 0)).toArray := k4
      refine l_nil ?_
      refine hK3 _ _ ?_
      refine c_seq (fun K5 hK5 => ?_)
      exact (by
        refine c_region ?_
        refine l_step (y_slA000 Hvaa.underlying340 sz_5 (et g0 rfl) ) ?_
        refine l_step (y_moveV (et (gS rfl (gS rfl (gS rfl g0))) rfl)) ?_
        refine l_step (y_moveV (et (gS rfl (gS rfl (gS rfl (gS rfl (gS rfl g0))))) rfl)) ?_
        refine l_step (y_moveV (et (gS rfl (gS rfl (gS rfl (gS rfl (gS rfl (gS rfl (gS rfl g0))))))) rfl)) ?_
        refine l_eff (e_callV cal_251 (aC (et (gS rfl (gS rfl (gS rfl g0))) rfl) (aC (et (gS rfl (gS rfl g0)) rfl) (aC (et (gS rfl g0) rfl) (aC (et g0 rfl) aN)))) (m_part s0 b4 64 off kn hW (by omega) k4 (Nat.le_trans hs0 f4) (by decide) (by omega) (by omega))) (fun v6 w6 h6 => ?_)
        obtain ⟨rfl, kb6, x6⟩ := h6
        replace k2 := k2.ch x6 (by omega)
        replace hW := hW.ch x6 (by first | omega | (intro q hq; omega))
        replace k4 := kb6
        replace U := U.cc x6 (by intro b hb; first | exact hb ▸ f4 | omega)
        refine l_nil ?_
        refine hK5 _ _ ?_
        refine fg2 6 7 (gS rfl (gS rfl (gS rfl (gS rfl (gS rfl (gS rfl g0)))))) (gS rfl (gS rfl (gS rfl (gS rfl (gS rfl g0))))) (fun g => ?_)
        refine c_seq (fun K7 hK7 => ?_)
        exact (by
          refine c_region ?_
          refine l_eff (e_alloc zr_336) (fun v8 w8 h8 => ?_)
          obtain ⟨b8, rfl, n8⟩ := h8
          have d2_8 : b2 < b8 := Nat.lt_of_lt_of_le k2.lt n8.fresh
          have d4_8 : b4 < b8 := Nat.lt_of_lt_of_le k4.lt n8.fresh
          have f8 : w.heap.size ≤ b8 := Nat.le_trans U.size n8.fresh
          replace k2 := k2.up n8.up
          replace k4 := k4.up n8.up
          replace hW := hW.up n8.up
          replace U := U.tr n8.up
          have k8 := n8.blk
          refine l_nil ?_
          refine hK7 _ _ ?_
          refine c_seq (fun K9 hK9 => ?_)
          refine c_seq (fun K10 hK10 => ?_)
          exact (by
            refine c_region ?_
            refine l_step y_moveC ?_
            refine l_nil ?_
            refine hK10 _ _ ?_
            refine c_block (fun Q11 hQ11 => ?_)
            refine fg4 6 7 8 17 (gS rfl (gS rfl (gS rfl g0))) (gS rfl (gS rfl g0)) (gS rfl g0) g0 (fun g => ?_)
            refine c_loop (fun k_ s_ W12 => ∃ (g : Nat → Value) (i : Nat), s_ = (upd (upd (upd (upd g 6 (.pointer (some ⟨b2, 0, none⟩))) 7 (.pointer (some ⟨b4, 0, none⟩))) 8 (.pointer (some ⟨b8, 0, none⟩))) 17 (.int .i64 (i : Nat))) ∧ 8 - i = k_ ∧ (i ≤ 8) ∧ Blk W12 b8 (((List.range i).map (fun j => Value.int .u64 (limb (ofBE (cutN l off kn)) j : Nat)) ++ List.replicate (8 - i) (Value.int .u64 0)).toArray) ∧ Ch (fun k => k = b8) w8 W12) (8 - (0)) ?_ ?_
            · exact ⟨g, 0, rfl, rfl, by omega, k8, Ch.refl _ _⟩
            · skip
              intro k_ s_ W12 hI K12 hK12
              obtain ⟨g, i, rfl, rfl, hi, nk8, V12⟩ := hI
              replace k2 := k2.ch V12 (by omega)
              replace k4 := k4.ch V12 (by omega)
              replace hW := hW.ch V12 (by first | omega | (intro q hq; omega))
              replace k8 := nk8
              replace U := U.cc V12 (by intro b hb; first | exact hb.elim | omega | (simp at hb ⊢; omega))
              refine c_seq (fun K13 hK13 => ?_)
              exact (by
                refine c_region ?_
                refine l_step (y_lss (et g0 rfl) rfl) ?_
                refine l_nil ?_
                refine hK13 _ _ ?_
                refine c_seq (fun K14 hK14 => ?_)
                refine c_cond (et g0 rfl) (fun cB1 => ?_) (fun cB1 => ?_)
                · skip
                  
                  have hi3 : i < 8 := by have := of_decide_eq_true cB1; omega
                  refine c_skip ?_
                  refine hK14 _ _ ?_
                  refine fg4 6 7 8 17 (gS rfl (gS rfl (gS rfl (gS rfl g0)))) (gS rfl (gS rfl (gS rfl g0))) (gS rfl (gS rfl g0)) (gS rfl g0) (fun g => ?_)
                  refine c_seq (fun K16 hK16 => ?_)
                  refine c_block (fun Q17 hQ17 => ?_)
                  refine c_seq (fun K18 hK18 => ?_)
                  exact (by
                    refine c_region ?_
                    refine l_step (y_moveV (et g0 rfl)) ?_
                    refine l_step (y_assignV (et g0 rfl)) ?_
                    refine l_nil ?_
                    refine hK18 _ _ ?_
                    refine fg5 6 7 8 17 9 (gS rfl (gS rfl (gS rfl (gS rfl (gS rfl g0))))) (gS rfl (gS rfl (gS rfl (gS rfl g0)))) (gS rfl (gS rfl (gS rfl g0))) (gS rfl (gS rfl g0)) g0 (fun g => ?_)
                    refine c_seq (fun K19 hK19 => ?_)
                    exact (by
                      refine c_region ?_
                      refine l_step (y_slA000 Hvaa.underlying340 sz_5 (et (gS rfl (gS rfl (gS rfl g0))) rfl) ) ?_
                      refine l_step (y_moveV (et (gS rfl g0) rfl)) ?_
                      refine l_step (y_mul rfl (et g0 rfl) (mulIN (x := 8) ?_)) ?_
                      omega
                      refine l_step (y_sub rfl (et g0 rfl) (subIN (x := 56) ?_ ?_)) ?_
                      omega
                      omega
                      refine l_eff (e_callV cal_156 (aC (et (gS rfl (gS rfl (gS rfl g0))) rfl) (aC (et g0 rfl) aN)) (be64_limb _ _ i _ k4 hi3)) (fun v20 w20 h20 => ?_)
                      obtain ⟨rfl, u20⟩ := h20
                      replace k2 := k2.up u20
                      replace k4 := k4.up u20
                      replace k8 := k8.up u20
                      replace hW := hW.up u20
                      replace U := U.tr u20
                      replace V12 := V12.tr u20
                      refine l_step (y_moveV (et g0 rfl)) ?_
                      refine l_step (y_ext (et g0 rfl) rfl) ?_
                      refine l_step (y_ext (et (gS rfl g0) rfl) rfl) ?_
                      refine l_step (y_assignV (et (gS rfl g0) rfl)) ?_
                      refine l_step (y_assignV (et (gS rfl g0) rfl)) ?_
                      refine l_nil ?_
                      refine hK19 _ _ ?_
                      refine fg6 6 7 8 17 9 10 (gS rfl (gS rfl (gS rfl (gS rfl (gS rfl (gS rfl (gS rfl (gS rfl (gS rfl (gS rfl (gS rfl (gS rfl (gS rfl (gS rfl g0)))))))))))))) (gS rfl (gS rfl (gS rfl (gS rfl (gS rfl (gS rfl (gS rfl (gS rfl (gS rfl (gS rfl (gS rfl (gS rfl (gS rfl g0))))))))))))) (gS rfl (gS rfl (gS rfl (gS rfl (gS rfl (gS rfl (gS rfl (gS rfl (gS rfl (gS rfl (gS rfl (gS rfl g0)))))))))))) (gS rfl (gS rfl (gS rfl (gS rfl (gS rfl (gS rfl (gS rfl (gS rfl (gS rfl (gS rfl (gS rfl g0))))))))))) (gS rfl (gS rfl (gS rfl (gS rfl (gS rfl (gS rfl (gS rfl (gS rfl (gS rfl (gS rfl g0)))))))))) (gS rfl g0) (fun g => ?_)
                      refine c_region ?_
                      refine l_step (y_moveV (et (gS rfl g0) rfl)) ?_
                      refine l_step (y_moveV (et (gS rfl g0) rfl)) ?_
                      refine l_step (y_idxA Hvaa.underlying336 sz_26 (et (gS rfl (gS rfl (gS rfl (gS rfl (gS rfl g0))))) rfl) (et (gS rfl g0) rfl) ?_ ?_) ?_
                      omega
                      omega
                      refine l_effN (e_store sz_26 (et g0 rfl) (cellsV (et (gS rfl g0) rfl) rfl) rfl (by first | exact one_bL _ | exact one_uL _ | (intro v hv; simp at hv; subst hv; rfl)) k8 (by (simp; omega))) (fun v21 w21 h21 => ?_)
                      obtain ⟨rfl, x21⟩ := h21
                      replace k2 := k2.ch x21.ch (by omega)
                      replace k4 := k4.ch x21.ch (by omega)
                      replace hW := hW.ch x21.ch (by first | omega | (first | omega | (intro q hq; omega)))
                      replace k8 := x21.blk
                      replace U := U.st x21 f8
                      replace V12 := V12.st x21 (by omega)
                      replace k8 : Blk w21 b8 ((List.range (i + 1)).map (fun j => Value.int .u64 (limb (ofBE (cutN l off kn)) j : Nat)) ++ List.replicate (8 - (i + 1)) (Value.int .u64 0)).toArray := by
                        have h9 := k8
                        rw [show (0 : Nat) + ((i : Nat) : Int).toNat * 1 = 0 + i * 1 from rfl, fill_nxt (by simp) hi3] at h9
                        rw [List.range_succ, List.map_append]
                        exact h9
                      refine l_nil ?_
                      refine hQ17 _ _ _ (in_normal ?_)
                      refine hK16 _ _ ?_
                      refine fg4 6 7 8 17 (gS rfl (gS rfl (gS rfl (gS rfl (gS rfl (gS rfl (gS rfl (gS rfl g0)))))))) (gS rfl (gS rfl (gS rfl (gS rfl (gS rfl (gS rfl (gS rfl g0))))))) (gS rfl (gS rfl (gS rfl (gS rfl (gS rfl (gS rfl g0)))))) (gS rfl (gS rfl (gS rfl (gS rfl (gS rfl g0))))) (fun g => ?_)
                      refine c_region ?_
                      exact (by
                        refine l_step (y_add (et g0 rfl) rfl (addIN (y := 1) ?_)) ?_
                        omega
                        refine l_step (y_moveV (et g0 rfl)) ?_
                        refine l_nil ?_
                        refine fK4 6 7 8 17 (gS rfl (gS rfl (gS rfl (gS rfl (gS rfl g0))))) (gS rfl (gS rfl (gS rfl (gS rfl g0)))) (gS rfl (gS rfl (gS rfl g0))) g0 (fun g => ?_)
                        exact hK12 (8 - ((i + 1))) _ _ (by omega) ⟨g, (i + 1), rfl, rfl, by omega, k8, V12⟩)))
                · skip
                  
                  have hi3 : i = 8 := by have := of_decide_eq_false cB1; omega
                  subst hi3
                  refine c_exit ?_
                  refine hQ11 _ _ _ (in_exit ?_)
                  refine hK9 _ _ ?_
                  refine fg2 6 8 (gS rfl (gS rfl (gS rfl (gS rfl g0)))) (gS rfl (gS rfl g0)) (fun g => ?_)
                  refine c_seq (fun K22 hK22 => ?_)
                  exact (by
                    refine c_region ?_
                    replace k8 : Blk W12 b8 (uL ((List.range 8).map (limb (ofBE (cutN l off kn))))).toArray := k8
                    refine l_step (y_loadB agg_336 sz_336 (et g0 rfl) rfl (at1B k8)) ?_
                    refine l_effN (e_store sz_336 (et (gS rfl (gS rfl g0)) rfl) (cellsV (et g0 rfl) rfl) rfl (by exact one_uL _) k2 (by (rw [hz2]; exact Nat.le_refl _))) (fun v23 w23 h23 => ?_)
                    obtain ⟨rfl, x23⟩ := h23
                    replace k4 := k4.ch x23.ch (by omega)
                    replace k8 := k8.ch x23.ch (by omega)
                    replace hW := hW.ch x23.ch (by first | omega | (first | omega | (intro q hq; omega)))
                    replace k2 := x23.blk.full (by rw [hz2]; rfl)
                    replace U := U.st x23 f2
                    refine l_nil ?_
                    refine hK22 _ _ ?_
                    refine fg1 6 (gS rfl (gS rfl g0)) (fun g => ?_)
                    refine c_ret ?_
                    repeat with_reducible refine then_ret ?_
                    refine ret1 rfl (res_blk agg_336 sz_336 (et g0 rfl) rfl k2) ?_
                    exact ⟨rfl, U⟩)))))))
end Go.Proofs.YgvaawGreat
