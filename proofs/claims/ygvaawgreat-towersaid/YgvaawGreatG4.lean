import Derived.Test.YgvaawGreatG3
set_option maxRecDepth 100000
set_option maxHeartbeats 4000000
set_option linter.unusedSimpArgs false
set_option linter.unusedVariables false
namespace Go.Proofs.YgvaawGreat
open Go
section
variable {n : Nat} {s : Nat → Value} {w : World} {d : Option Nat} {ty : TypeId} {pos : String} {af : Array Edge} {g : Option (Nat × Bool)}
theorem e_clearB {x : Operand} {b o k dc : Nat} {cs : Array Value} (hx : ev n s x = .slice (some ⟨b, o, none⟩) k dc) (hk : 0 < k) (hb : Blk w b cs) (ho : o + k ≤ cs.size) :
    Eff n s w ⟨d, .call { callee := .builtin .clear, args := #[x], argTypes := #[38] }, ty, pos, af, g⟩ (fun v w' => v = .tuple #[] ∧ Wr w w' b (spl cs o (bL (List.replicate k 0)))) := by
  obtain ⟨m, rfl⟩ : ∃ m, k = m + 1 := ⟨k - 1, by omega⟩
  exact e_clear Hvaa.underlying38 zr_5 hx (by rw [zB]) (one_bL _) hb (by rw [length_bL, List.length_replicate]; exact ho)
end
theorem dig_zero (k : Nat) : Dig 256 (List.replicate k 0) := fun d hd => by rw [(List.mem_replicate.1 hd).2]; decide
theorem MA.grown {w w' : World} {col col' : Nat → Nat} {cs cs' : Array Value} {low : List (List Nat)} {m : List Nat} {bm bm' : Nat} {cm cm' : Array Value} {n n' more : Nat} {v' : Value} (h : MA w col cs (low ++ [m]) bm cm n) (hv : GB w' 1 v' bm' cm' n') (hc : v'.ownBlock = some bm' → col' bm' = 8) (h1 : cs'[1]? = some v') (h10 : cs'[10]? = cs[10]?) (hb : ∀ i, i ≤ low.length → cs'[2 + i]? = cs[2 + i]?) (ht : cs'[2 + (low.length + 1)]? = some (.int .u32 (low.flatten.length + m.length + more : Nat))) (hr : RowIn cm' 0 (bL (low.flatten ++ m))) (hz : RowIn cm' (low.flatten.length + m.length) (bL (List.replicate more 0))) (hn : low.flatten.length + m.length + more ≤ n') (hn2 : n' ≤ 5020960) (hmx : m.length + more ≤ 717280) : MA w' col' cs' (low ++ [m ++ List.replicate more 0]) bm' cm' n' := by
  have hln := h.ln
  rw [List.length_append, List.length_singleton] at hln
  refine ⟨?_, fun i hi => ?_, ⟨v', h1, hv, hc⟩, by rw [flat_snoc, List.length_append, List.length_append, List.length_replicate]; omega, hn2, ?_, by rw [List.length_append, List.length_singleton]; exact hln, fun q hq => ?_, fun q hq => ?_⟩
  · rw [h10, h.tp, List.length_append, List.length_append, List.length_singleton, List.length_singleton]
  · rw [List.length_append, List.length_singleton] at hi
    by_cases h1 : i ≤ low.length
    · rw [hb i h1, h.bs i (by rw [List.length_append]; omega)]
      congr 3
      exact bsN_pre h1
    · have e : i = low.length + 1 := by omega
      subst e
      rw [ht, bsN_top, List.length_append, List.length_replicate, Nat.add_assoc]
  · rw [flat_snoc, ← List.append_assoc, bL_app]
    intro j v hj
    by_cases hlt : j < (bL (low.flatten ++ m)).length
    · rw [List.getElem?_append_left hlt] at hj
      exact hr j v hj
    · rw [List.getElem?_append_right (by omega)] at hj
      have := hz _ v hj
      rw [length_bL, List.length_append] at this hlt
      rw [Nat.zero_add, show j = low.flatten.length + m.length + (j - (low.flatten.length + m.length)) by omega]
      exact this
  · rcases List.mem_append.1 hq with hq | hq
    · exact h.mx q (List.mem_append_left _ hq)
    · simp at hq
      rw [hq, List.length_append, List.length_replicate]
      exact hmx
  · rcases List.mem_append.1 hq with hq | hq
    · exact h.dg q (List.mem_append_left _ hq)
    · simp at hq
      rw [hq]
      exact (h.dg m (by simp)).app (dig_zero _)
theorem up_eq {w w' : World} (h : w' = w) : Up w w' := by rw [h]; exact Up.refl _
theorem Row.sub2 {w : World} {b o c : Nat} {l : List Nat} (h : Row w b o (bL l)) (x : Nat) : Row w b (o + x * 1) (bL ((l.drop x).take c)) := by
  intro j v hv
  rw [bLt, bLd, List.getElem?_take] at hv
  split at hv
  · rw [List.getElem?_drop] at hv
    have := h (x + j) v hv
    rw [Nat.mul_one, Nat.add_assoc]
    exact this
  · cases hv
theorem g_move {w : World} {col : Nat → Nat} {bc : Nat} {cs : Array Value} {low : List (List Nat)} {m : List Nat} {bm : Nat} {cm : Array Value} {n : Nat} (kC : Blk w bc cs) (hM : MA w col cs (low ++ [m]) bm cm n) (hcC : col bc = 1) (dst src k : Nat) (hk : 0 < k) (hok : dst + k ≤ m.length) (hok2 : src + k ≤ m.length) :
    Ret 298 [.pointer (some ⟨bc, 1, none⟩), .int .u32 (dst : Nat), .int .u32 (src : Nat), .int .u32 (k : Nat)] w (fun v w' => v = .bool true ∧ ∃ cm', MA w' col cs (low ++ [lay m dst ((m.drop src).take k)]) bm cm' n ∧ Ch (fun b => b = bm) w w') := by
  have htp : cs[10]? = some (.int .u8 (low.length + 1 : Nat)) := by have h9 := hM.tp; rw [List.length_append, List.length_singleton] at h9; exact h9
  have hlo : cs[2 + low.length]? = some (.int .u32 (low.flatten.length : Nat)) := by have h9 := hM.bs low.length (by simp); rw [bsN_low] at h9; exact h9
  have hhi : cs[2 + (low.length + 1)]? = some (.int .u32 (low.flatten.length + m.length : Nat)) := by have h9 := hM.bs (low.length + 1) (by simp); rw [bsN_top] at h9; exact h9
  have hln : low.length + 1 ≤ 7 := by have h9 := hM.ln; rw [List.length_append, List.length_singleton] at h9; exact h9
  have hfl : low.flatten.length + m.length ≤ n := by have h9 := hM.le; rw [flat_snoc, List.length_append] at h9; exact h9
  have hnb := hM.nb
  have hmx : m.length ≤ 717280 := hM.mx m (by simp)
  have hbc0 := kC.lt
  obtain ⟨_, _, _, _, _, kM0, _⟩ := hM.pos (by omega)
  have hbl := kM0.lt
  refine enter (n := 36) Hvaa.func298 rfl rfl (Nat.le_of_ble_eq_true rfl) ?_
  have U : Ch (fun b => b = bm) w w := Ch.refl _ w
  refine c_seq (fun K1 hK1 => ?_)
  exact (by
    refine c_region ?_
    refine l_step y_assignC ?_
    refine l_nil ?_
    refine hK1 _ _ ?_
    refine fg4 3 2 1 0 (gS rfl (gS rfl (gS rfl (gS rfl g0)))) (gS rfl (gS rfl (gS rfl g0))) (gS rfl (gS rfl g0)) (gS rfl g0) (fun g => ?_)
    refine c_seq (fun K2 hK2 => ?_)
    exact (by
      refine c_region ?_
      refine l_step (y_moveV (et g0 rfl)) ?_
      refine l_step (y_moveV (et (gS rfl (gS rfl g0)) rfl)) ?_
      refine l_step (y_moveV (et (gS rfl (gS rfl (gS rfl (gS rfl (gS rfl g0))))) rfl)) ?_
      refine l_eff (e_callV cal_358 (aC (et (gS rfl (gS rfl g0)) rfl) (aC (et (gS rfl g0) rfl) (aC (et g0 rfl) aN))) (g_part kC hM hcC dst k (by omega) (by omega))) (fun v3 w3 h3 => ?_)
      obtain ⟨rfl, u3⟩ := h3
      replace kC := kC.up u3
      replace hM := hM.up u3
      replace U := U.tr u3
      refine l_step (y_moveV (et g0 rfl)) ?_
      refine l_step (y_ext (et g0 rfl) rfl) ?_
      refine l_step (y_ext (et (gS rfl g0) rfl) rfl) ?_
      refine l_step (y_assignV (et (gS rfl g0) rfl)) ?_
      refine l_step (y_assignV (et (gS rfl g0) rfl)) ?_
      refine l_nil ?_
      refine hK2 _ _ ?_
      refine fg5 3 2 0 9 10 (gS rfl (gS rfl (gS rfl (gS rfl (gS rfl (gS rfl (gS rfl (gS rfl (gS rfl (gS rfl (gS rfl (gS rfl g0)))))))))))) (gS rfl (gS rfl (gS rfl (gS rfl (gS rfl (gS rfl (gS rfl (gS rfl (gS rfl (gS rfl (gS rfl g0))))))))))) (gS rfl (gS rfl (gS rfl (gS rfl (gS rfl (gS rfl (gS rfl (gS rfl (gS rfl g0))))))))) (gS rfl g0) g0 (fun g => ?_)
      refine c_seq (fun K4 hK4 => ?_)
      exact (by
        refine c_region ?_
        refine l_step (y_moveV (et (gS rfl (gS rfl g0)) rfl)) ?_
        refine l_step (y_moveV (et (gS rfl (gS rfl (gS rfl (gS rfl g0)))) rfl)) ?_
        refine l_step (y_moveV (et (gS rfl (gS rfl (gS rfl (gS rfl (gS rfl (gS rfl g0)))))) rfl)) ?_
        refine l_eff (e_callV cal_358 (aC (et (gS rfl (gS rfl g0)) rfl) (aC (et (gS rfl g0) rfl) (aC (et g0 rfl) aN))) (g_part kC hM hcC src k (by omega) (by omega))) (fun v5 w5 h5 => ?_)
        obtain ⟨rfl, u5⟩ := h5
        replace kC := kC.up u5
        replace hM := hM.up u5
        replace U := U.tr u5
        refine l_step (y_moveV (et g0 rfl)) ?_
        refine l_step (y_ext (et g0 rfl) rfl) ?_
        refine l_step (y_ext (et (gS rfl g0) rfl) rfl) ?_
        refine l_step (y_assignV (et (gS rfl g0) rfl)) ?_
        refine l_step (y_assignV (et (gS rfl g0) rfl)) ?_
        refine l_nil ?_
        refine hK4 _ _ ?_
        refine fg4 9 10 11 12 (gS rfl (gS rfl (gS rfl (gS rfl (gS rfl (gS rfl (gS rfl (gS rfl (gS rfl (gS rfl g0)))))))))) (gS rfl (gS rfl (gS rfl (gS rfl (gS rfl (gS rfl (gS rfl (gS rfl (gS rfl g0))))))))) (gS rfl g0) g0 (fun g => ?_)
        refine c_seq (fun K6 hK6 => ?_)
        refine c_seq (fun K7 hK7 => ?_)
        exact (by
          refine c_region ?_
          refine l_step (y_moveV (et (gS rfl (gS rfl g0)) rfl)) ?_
          refine l_step (y_not (et g0 rfl)) ?_
          refine l_step (y_moveV (et g0 rfl)) ?_
          refine gsplitL (i := 29) g0 (fun q8 => ?_) (fun q8 => ?_)
          · skip
            cases q8
          · skip
            refine l_gstep (j := 2) (t := 29) (by exact rfl) (by exact rfl) (et g0 rfl) (by decide) (y_moveV (et (gS rfl (gS rfl (gS rfl (gS rfl g0)))) rfl)) ?_
            refine l_gstep (j := 2) (t := 29) (by exact rfl) (by exact rfl) (et (gS rfl g0) rfl) (by decide) (y_not (et g0 rfl)) ?_
            refine l_step (y_pickF (et (gS rfl (gS rfl g0)) rfl) (et g0 rfl)) ?_
            refine l_nil ?_
            refine hK7 _ _ ?_
            refine fg3 9 11 32 (gS rfl (gS rfl (gS rfl (gS rfl (gS rfl (gS rfl (gS rfl (gS rfl (gS rfl (gS rfl g0)))))))))) (gS rfl (gS rfl (gS rfl (gS rfl (gS rfl (gS rfl (gS rfl (gS rfl g0)))))))) g0 (fun g => ?_)
            refine c_false (et g0 rfl) (by rfl) ?_
            refine c_skip ?_
            refine hK6 _ _ ?_
            refine fg2 9 11 (gS rfl (gS rfl g0)) (gS rfl g0) (fun g => ?_)
            refine c_seq (fun K10 hK10 => ?_)
            exact (by
              refine c_region ?_
              refine l_step (y_moveV (et (gS rfl g0) rfl)) ?_
              refine l_step (y_moveV (et (gS rfl g0) rfl)) ?_
              obtain ⟨cap9, _, hnc9, _, hcz, kM, hc8⟩ := hM.pos (by omega)
              refine l_eff (e_copy Hvaa.underlying38 sz_5 (et (gS rfl g0) rfl) (et g0 rfl) (l := bL ((m.drop src).take k)) (by rw [length_bL, List.length_take, List.length_drop, Nat.min_self]; omega) (kM.row (hM.bytes (off := src) (k := k))) (one_bL _) kM (by rw [length_bL, List.length_take, List.length_drop]; omega)) (fun v11 w11 h11 => ?_)
              obtain ⟨rfl, x11⟩ := h11
              have hm11 := hM.put (off := dst) (l := (m.drop src).take k) (by rw [List.length_take, List.length_drop]; omega) (by omega) ((Dig.dr (hM.dg m (by simp)) _).tk _) rfl x11
              replace kC := kC.ch x11.ch (by intro hm; first | omega | (subst hm; omega))
              replace hM := hm11
              replace U := U.cc x11.ch (by intro b hb; exact .inl hb)
              refine l_nil ?_
              refine hK10 _ _ ?_
              refine fg0 (fun g => ?_)
              refine c_seq (fun K12 hK12 => ?_)
              exact (by
                refine c_region ?_
                refine l_step y_assignC ?_
                refine l_nil ?_
                refine hK12 _ _ ?_
                refine c_ret ?_
                repeat with_reducible refine then_ret ?_
                refine ret1 rfl (res_tmp (et g0 rfl)) ?_
                exact ⟨rfl, _, hM, U⟩))))))
theorem g_write0 {w : World} {col : Nat → Nat} {bc : Nat} {cs : Array Value} {low : List (List Nat)} {m : List Nat} {bm : Nat} {cm : Array Value} {n : Nat} (kC : Blk w bc cs) (hM : MA w col cs (low ++ [m]) bm cm n) (hcC : col bc = 1) (off k x : Nat) (hk : 0 < k) (hok : off + k ≤ m.length) (hx64 : x < 18446744073709551616) {sa : Option Addr} {sc : Nat} {l : List Nat} (hdl : Dig 256 l) (hll : l.length < 4294967296) (hsc : l.length ≤ sc) (hxl : l.length ≤ x) :
    Ret 258 [.pointer (some ⟨bc, 1, none⟩), .int .u32 (off : Nat), .slice sa l.length sc, .int .u64 (x : Nat), .int .u32 (k : Nat)] w (fun v w' => v = .bool true ∧ ∃ cm', MA w' col cs (low ++ [lay m off (cutN l x k)]) bm cm' n ∧ Ch (fun b => b = bm) w w') := by
  have htp : cs[10]? = some (.int .u8 (low.length + 1 : Nat)) := by have h9 := hM.tp; rw [List.length_append, List.length_singleton] at h9; exact h9
  have hlo : cs[2 + low.length]? = some (.int .u32 (low.flatten.length : Nat)) := by have h9 := hM.bs low.length (by simp); rw [bsN_low] at h9; exact h9
  have hhi : cs[2 + (low.length + 1)]? = some (.int .u32 (low.flatten.length + m.length : Nat)) := by have h9 := hM.bs (low.length + 1) (by simp); rw [bsN_top] at h9; exact h9
  have hln : low.length + 1 ≤ 7 := by have h9 := hM.ln; rw [List.length_append, List.length_singleton] at h9; exact h9
  have hfl : low.flatten.length + m.length ≤ n := by have h9 := hM.le; rw [flat_snoc, List.length_append] at h9; exact h9
  have hnb := hM.nb
  have hmx : m.length ≤ 717280 := hM.mx m (by simp)
  have hbc0 := kC.lt
  obtain ⟨_, _, _, _, _, kM0, _⟩ := hM.pos (by omega)
  have hbl := kM0.lt
  refine enter (n := 36) Hvaa.func258 rfl rfl (Nat.le_of_ble_eq_true rfl) ?_
  have U : Ch (fun b => b = bm) w w := Ch.refl _ w
  refine c_seq (fun K1 hK1 => ?_)
  exact (by
    refine c_region ?_
    refine l_step y_assignC ?_
    refine l_nil ?_
    refine hK1 _ _ ?_
    refine fg5 4 3 2 1 0 (gS rfl (gS rfl (gS rfl (gS rfl (gS rfl g0))))) (gS rfl (gS rfl (gS rfl (gS rfl g0)))) (gS rfl (gS rfl (gS rfl g0))) (gS rfl (gS rfl g0)) (gS rfl g0) (fun g => ?_)
    refine c_seq (fun K2 hK2 => ?_)
    exact (by
      refine c_region ?_
      refine l_step (y_moveV (et g0 rfl)) ?_
      refine l_step (y_moveV (et (gS rfl (gS rfl g0)) rfl)) ?_
      refine l_step (y_moveV (et (gS rfl (gS rfl (gS rfl (gS rfl (gS rfl (gS rfl g0)))))) rfl)) ?_
      refine l_eff (e_callV cal_358 (aC (et (gS rfl (gS rfl g0)) rfl) (aC (et (gS rfl g0) rfl) (aC (et g0 rfl) aN))) (g_part kC hM hcC off k (by omega) (by omega))) (fun v3 w3 h3 => ?_)
      obtain ⟨rfl, u3⟩ := h3
      replace kC := kC.up u3
      replace hM := hM.up u3
      replace U := U.tr u3
      refine l_step (y_moveV (et g0 rfl)) ?_
      refine l_step (y_ext (et g0 rfl) rfl) ?_
      refine l_step (y_ext (et (gS rfl g0) rfl) rfl) ?_
      refine l_step (y_assignV (et (gS rfl g0) rfl)) ?_
      refine l_step (y_assignV (et (gS rfl g0) rfl)) ?_
      refine l_nil ?_
      refine hK2 _ _ ?_
      refine fg4 3 2 11 12 (gS rfl (gS rfl (gS rfl (gS rfl (gS rfl (gS rfl (gS rfl (gS rfl (gS rfl (gS rfl (gS rfl (gS rfl g0)))))))))))) (gS rfl (gS rfl (gS rfl (gS rfl (gS rfl (gS rfl (gS rfl (gS rfl (gS rfl (gS rfl (gS rfl g0))))))))))) (gS rfl g0) g0 (fun g => ?_)
      refine c_seq (fun K4 hK4 => ?_)
      refine c_seq (fun K5 hK5 => ?_)
      exact (by
        refine c_region ?_
        refine l_step (y_moveV (et g0 rfl)) ?_
        refine l_step (y_not (et g0 rfl)) ?_
        refine l_nil ?_
        refine hK5 _ _ ?_
        refine fg4 3 2 11 22 (gS rfl (gS rfl (gS rfl (gS rfl (gS rfl g0))))) (gS rfl (gS rfl (gS rfl (gS rfl g0)))) (gS rfl (gS rfl (gS rfl g0))) g0 (fun g => ?_)
        refine c_false (et g0 rfl) (by rfl) ?_
        refine c_skip ?_
        refine hK4 _ _ ?_
        refine fg3 3 2 11 (gS rfl (gS rfl (gS rfl g0))) (gS rfl (gS rfl g0)) (gS rfl g0) (fun g => ?_)
        refine c_seq (fun K7 hK7 => ?_)
        exact (by
          refine c_region ?_
          refine l_step y_assignC ?_
          refine l_nil ?_
          refine hK7 _ _ ?_
          refine c_seq (fun K8 hK8 => ?_)
          refine c_seq (fun K9 hK9 => ?_)
          exact (by
            refine c_region ?_
            refine l_step (y_moveV (et (gS rfl (gS rfl (gS rfl g0))) rfl)) ?_
            refine l_step (y_moveV (et (gS rfl (gS rfl (gS rfl g0))) rfl)) ?_
            refine l_step (y_len Hvaa.underlying38 (et g0 rfl)) ?_
            refine l_step (y_conv Hvaa.underlying3 Hvaa.underlying26 (et g0 rfl) (wrapU_id uk64 ?_)) ?_
            omega
            refine l_step (y_lss (et (gS rfl (gS rfl (gS rfl g0))) rfl) (et g0 rfl)) ?_
            refine l_nil ?_
            refine hK9 _ _ ?_
            refine fg5 3 2 11 13 27 (gS rfl (gS rfl (gS rfl (gS rfl (gS rfl (gS rfl (gS rfl (gS rfl g0)))))))) (gS rfl (gS rfl (gS rfl (gS rfl (gS rfl (gS rfl (gS rfl g0))))))) (gS rfl (gS rfl (gS rfl (gS rfl (gS rfl (gS rfl g0)))))) (gS rfl (gS rfl (gS rfl (gS rfl (gS rfl g0))))) g0 (fun g => ?_)
            refine c_false (et g0 rfl) (by (exact decide_eq_false (by omega))) ?_
            refine c_skip ?_
            refine hK8 _ _ ?_
            refine fg2 11 13 (gS rfl (gS rfl g0)) (gS rfl g0) (fun g => ?_)
            refine c_seq (fun K11 hK11 => ?_)
            exact (by
              refine c_region ?_
              refine l_step (y_moveV (et (gS rfl g0) rfl)) ?_
              refine l_step (y_moveV (et (gS rfl g0) rfl)) ?_
              refine l_step (y_slS100 (i := 0) Hvaa.underlying38 sz_5 (et (gS rfl g0) rfl) (et g0 rfl) ?_ ?_ ?_) ?_
              omega
              omega
              omega
              obtain ⟨cap9, _, hnc9, _, hcz, kM, hc8⟩ := hM.pos (by omega)
              refine l_effN (e_clearB (o := low.flatten.length + off) (k := k) (Eq.trans (et g0 rfl) (congrArg (fun q => Value.slice (some ⟨bm, q, none⟩) k k) (by omega))) hk kM (by omega)) (fun v12 w12 h12 => ?_)
              obtain ⟨rfl, x12⟩ := h12
              have hm12 := hM.put (off := off) (l := List.replicate k 0) (by rw [List.length_replicate]; omega) (by omega) (dig_zero _) rfl x12
              replace kC := kC.ch x12.ch (by intro hm; first | omega | (subst hm; omega))
              replace hM := hm12
              replace U := U.cc x12.ch (by intro b hb; exact .inl hb)
              refine l_nil ?_
              refine hK11 _ _ ?_
              refine fg0 (fun g => ?_)
              refine c_seq (fun K13 hK13 => ?_)
              exact (by
                refine c_region ?_
                refine l_step y_assignC ?_
                refine l_nil ?_
                refine hK13 _ _ ?_
                refine c_ret ?_
                repeat with_reducible refine then_ret ?_
                refine ret1 rfl (res_tmp (et g0 rfl)) ?_
                have e9 : cutN l x k = List.replicate k 0 := by unfold cutN; rw [List.drop_of_length_le (by omega), List.take_nil, List.nil_append]; congr 1; omega
                rw [e9]
                exact ⟨rfl, _, hM, U⟩)))))))
theorem g_writea {w : World} {col : Nat → Nat} {bc : Nat} {cs : Array Value} {low : List (List Nat)} {m : List Nat} {bm : Nat} {cm : Array Value} {n : Nat} (kC : Blk w bc cs) (hM : MA w col cs (low ++ [m]) bm cm n) (hcC : col bc = 1) (off k x : Nat) (hk : 0 < k) (hok : off + k ≤ m.length) (hx64 : x < 18446744073709551616) {sb so_ sc : Nat} {l : List Nat} (hdl : Dig 256 l) (hll : l.length < 4294967296) (hsc : l.length ≤ sc) (hsr : Row w sb so_ (bL l)) (hsm : sb ≠ bm) (hxl : x < l.length) (hxk : l.length - x < k) :
    Ret 258 [.pointer (some ⟨bc, 1, none⟩), .int .u32 (off : Nat), .slice (some ⟨sb, so_, none⟩) l.length sc, .int .u64 (x : Nat), .int .u32 (k : Nat)] w (fun v w' => v = .bool true ∧ ∃ cm', MA w' col cs (low ++ [lay m off (cutN l x k)]) bm cm' n ∧ Ch (fun b => b = bm) w w') := by
  have htp : cs[10]? = some (.int .u8 (low.length + 1 : Nat)) := by have h9 := hM.tp; rw [List.length_append, List.length_singleton] at h9; exact h9
  have hlo : cs[2 + low.length]? = some (.int .u32 (low.flatten.length : Nat)) := by have h9 := hM.bs low.length (by simp); rw [bsN_low] at h9; exact h9
  have hhi : cs[2 + (low.length + 1)]? = some (.int .u32 (low.flatten.length + m.length : Nat)) := by have h9 := hM.bs (low.length + 1) (by simp); rw [bsN_top] at h9; exact h9
  have hln : low.length + 1 ≤ 7 := by have h9 := hM.ln; rw [List.length_append, List.length_singleton] at h9; exact h9
  have hfl : low.flatten.length + m.length ≤ n := by have h9 := hM.le; rw [flat_snoc, List.length_append] at h9; exact h9
  have hnb := hM.nb
  have hmx : m.length ≤ 717280 := hM.mx m (by simp)
  have hbc0 := kC.lt
  obtain ⟨_, _, _, _, _, kM0, _⟩ := hM.pos (by omega)
  have hbl := kM0.lt
  refine enter (n := 36) Hvaa.func258 rfl rfl (Nat.le_of_ble_eq_true rfl) ?_
  have U : Ch (fun b => b = bm) w w := Ch.refl _ w
  refine c_seq (fun K1 hK1 => ?_)
  exact (by
    refine c_region ?_
    refine l_step y_assignC ?_
    refine l_nil ?_
    refine hK1 _ _ ?_
    refine fg5 4 3 2 1 0 (gS rfl (gS rfl (gS rfl (gS rfl (gS rfl g0))))) (gS rfl (gS rfl (gS rfl (gS rfl g0)))) (gS rfl (gS rfl (gS rfl g0))) (gS rfl (gS rfl g0)) (gS rfl g0) (fun g => ?_)
    refine c_seq (fun K2 hK2 => ?_)
    exact (by
      refine c_region ?_
      refine l_step (y_moveV (et g0 rfl)) ?_
      refine l_step (y_moveV (et (gS rfl (gS rfl g0)) rfl)) ?_
      refine l_step (y_moveV (et (gS rfl (gS rfl (gS rfl (gS rfl (gS rfl (gS rfl g0)))))) rfl)) ?_
      refine l_eff (e_callV cal_358 (aC (et (gS rfl (gS rfl g0)) rfl) (aC (et (gS rfl g0) rfl) (aC (et g0 rfl) aN))) (g_part kC hM hcC off k (by omega) (by omega))) (fun v3 w3 h3 => ?_)
      obtain ⟨rfl, u3⟩ := h3
      replace kC := kC.up u3
      replace hM := hM.up u3
      replace hsr := hsr.up u3
      replace U := U.tr u3
      refine l_step (y_moveV (et g0 rfl)) ?_
      refine l_step (y_ext (et g0 rfl) rfl) ?_
      refine l_step (y_ext (et (gS rfl g0) rfl) rfl) ?_
      refine l_step (y_assignV (et (gS rfl g0) rfl)) ?_
      refine l_step (y_assignV (et (gS rfl g0) rfl)) ?_
      refine l_nil ?_
      refine hK2 _ _ ?_
      refine fg4 3 2 11 12 (gS rfl (gS rfl (gS rfl (gS rfl (gS rfl (gS rfl (gS rfl (gS rfl (gS rfl (gS rfl (gS rfl (gS rfl g0)))))))))))) (gS rfl (gS rfl (gS rfl (gS rfl (gS rfl (gS rfl (gS rfl (gS rfl (gS rfl (gS rfl (gS rfl g0))))))))))) (gS rfl g0) g0 (fun g => ?_)
      refine c_seq (fun K4 hK4 => ?_)
      refine c_seq (fun K5 hK5 => ?_)
      exact (by
        refine c_region ?_
        refine l_step (y_moveV (et g0 rfl)) ?_
        refine l_step (y_not (et g0 rfl)) ?_
        refine l_nil ?_
        refine hK5 _ _ ?_
        refine fg4 3 2 11 22 (gS rfl (gS rfl (gS rfl (gS rfl (gS rfl g0))))) (gS rfl (gS rfl (gS rfl (gS rfl g0)))) (gS rfl (gS rfl (gS rfl g0))) g0 (fun g => ?_)
        refine c_false (et g0 rfl) (by rfl) ?_
        refine c_skip ?_
        refine hK4 _ _ ?_
        refine fg3 3 2 11 (gS rfl (gS rfl (gS rfl g0))) (gS rfl (gS rfl g0)) (gS rfl g0) (fun g => ?_)
        refine c_seq (fun K7 hK7 => ?_)
        exact (by
          refine c_region ?_
          refine l_step y_assignC ?_
          refine l_nil ?_
          refine hK7 _ _ ?_
          refine c_seq (fun K8 hK8 => ?_)
          refine c_seq (fun K9 hK9 => ?_)
          exact (by
            refine c_region ?_
            refine l_step (y_moveV (et (gS rfl (gS rfl (gS rfl g0))) rfl)) ?_
            refine l_step (y_moveV (et (gS rfl (gS rfl (gS rfl g0))) rfl)) ?_
            refine l_step (y_len Hvaa.underlying38 (et g0 rfl)) ?_
            refine l_step (y_conv Hvaa.underlying3 Hvaa.underlying26 (et g0 rfl) (wrapU_id uk64 ?_)) ?_
            omega
            refine l_step (y_lss (et (gS rfl (gS rfl (gS rfl g0))) rfl) (et g0 rfl)) ?_
            refine l_nil ?_
            refine hK9 _ _ ?_
            refine fg5 3 2 11 13 27 (gS rfl (gS rfl (gS rfl (gS rfl (gS rfl (gS rfl (gS rfl (gS rfl g0)))))))) (gS rfl (gS rfl (gS rfl (gS rfl (gS rfl (gS rfl (gS rfl g0))))))) (gS rfl (gS rfl (gS rfl (gS rfl (gS rfl (gS rfl g0)))))) (gS rfl (gS rfl (gS rfl (gS rfl (gS rfl g0))))) g0 (fun g => ?_)
            refine c_true (et g0 rfl) (by (exact decide_eq_true (by omega))) ?_
            exact (by
              refine c_region ?_
              refine l_step (y_moveV (et (gS rfl (gS rfl g0)) rfl)) ?_
              refine l_step (y_moveV (et (gS rfl (gS rfl (gS rfl (gS rfl g0)))) rfl)) ?_
              refine l_step (y_moveV (et (gS rfl (gS rfl (gS rfl (gS rfl (gS rfl (gS rfl g0)))))) rfl)) ?_
              refine l_step (y_slS100n Hvaa.underlying38 sz_5 (et (gS rfl g0) rfl) (et g0 rfl) ?_ ?_) ?_
              omega
              omega
              obtain ⟨cap9, _, hnc9, _, hcz, kM, hc8⟩ := hM.pos (by omega)
              refine l_eff (e_copy Hvaa.underlying38 sz_5 (et (gS rfl (gS rfl (gS rfl g0))) rfl) (et g0 rfl) (l := bL ((l.drop x).take (min (l.length - x) k))) (by rw [length_bL, List.length_take, List.length_drop]; omega) (hsr.sub2 x) (one_bL _) kM (by rw [length_bL, List.length_take, List.length_drop]; omega)) (fun v11 w11 h11 => ?_)
              obtain ⟨rfl, x11⟩ := h11
              have hm11 := hM.put (off := off) (l := ((l.drop x).take (min (l.length - x) k))) (by rw [List.length_take, List.length_drop]; omega) (by omega) ((hdl.dr _).tk _) rfl x11
              replace kC := kC.ch x11.ch (by intro hm; first | omega | (subst hm; omega))
              replace hsr := hsr.ch x11.ch (by intro hm; first | omega | (subst hm; omega))
              replace hM := hm11
              replace U := U.cc x11.ch (by intro b hb; exact .inl hb)
              have hcl : (bL ((l.drop x).take (min (l.length - x) k))).length = (l.length - x) := by rw [length_bL, List.length_take, List.length_drop]; omega
              rw [hcl]
              refine l_step (y_assignV (et g0 rfl)) ?_
              refine l_nil ?_
              refine hK8 _ _ ?_
              refine fg2 11 13 (gS rfl (gS rfl (gS rfl (gS rfl (gS rfl (gS rfl (gS rfl (gS rfl g0)))))))) g0 (fun g => ?_)
              refine c_seq (fun K12 hK12 => ?_)
              exact (by
                refine c_region ?_
                refine l_step (y_moveV (et (gS rfl g0) rfl)) ?_
                refine l_step (y_moveV (et (gS rfl g0) rfl)) ?_
                refine l_step (y_slS100n (i := l.length - x) Hvaa.underlying38 sz_5 (et (gS rfl g0) rfl) (et g0 rfl) ?_ ?_) ?_
                omega
                omega
                obtain ⟨cap8, _, hnc8, _, hcz8, kM8, hc88⟩ := hM.pos (by rw [lay_len (by rw [List.length_take, List.length_drop]; omega)]; omega)
                have hle8 := hM.le
                rw [flat_snoc, List.length_append, lay_len (by rw [List.length_take, List.length_drop]; omega)] at hle8
                refine l_effN (e_clearB (o := low.flatten.length + off + (l.length - x)) (k := k - (l.length - x)) (Eq.trans (et g0 rfl) (congrArg (fun q => Value.slice (some ⟨bm, q, none⟩) (k - (l.length - x)) (k - (l.length - x))) (by omega))) (by omega) kM8 (by omega)) (fun v13 w13 h13 => ?_)
                obtain ⟨rfl, x13⟩ := h13
                have hcl2 : ((l.drop x).take (min (l.length - x) k)).length = l.length - x := by rw [List.length_take, List.length_drop]; omega
                have hm13 := hM.put (off := off + (l.length - x)) (l := List.replicate (k - (l.length - x)) 0) (by rw [List.length_replicate, lay_len (by omega)]; omega) (by rw [lay_len (by omega)]; omega) (dig_zero _) (by omega) x13
                replace kC := kC.ch x13.ch (by intro hm; first | omega | (subst hm; omega))
                replace hsr := hsr.ch x13.ch (by intro hm; first | omega | (subst hm; omega))
                replace hM := hm13
                replace U := U.cc x13.ch (by intro b hb; exact .inl hb)
                refine l_nil ?_
                refine hK12 _ _ ?_
                refine fg0 (fun g => ?_)
                refine c_seq (fun K14 hK14 => ?_)
                exact (by
                  refine c_region ?_
                  refine l_step y_assignC ?_
                  refine l_nil ?_
                  refine hK14 _ _ ?_
                  refine c_ret ?_
                  repeat with_reducible refine then_ret ?_
                  refine ret1 rfl (res_tmp (et g0 rfl)) ?_
                  have h9 := lay_lay (m := m) (off := off) (a := ((l.drop x).take (min (l.length - x) k))) (b := List.replicate (k - (l.length - x)) 0) (by rw [hcl2, List.length_replicate]; omega)
                  rw [hcl2] at h9
                  rw [h9] at hM
                  have e9 := cut_split (l := l) (x := x) (k := k)
                  rw [Nat.min_comm, Nat.min_eq_left (by omega : l.length - x ≤ k)] at e9
                  rw [Nat.min_eq_left (by omega : l.length - x ≤ k), e9] at hM
                  exact ⟨rfl, _, hM, U⟩))))))))
theorem g_writeb {w : World} {col : Nat → Nat} {bc : Nat} {cs : Array Value} {low : List (List Nat)} {m : List Nat} {bm : Nat} {cm : Array Value} {n : Nat} (kC : Blk w bc cs) (hM : MA w col cs (low ++ [m]) bm cm n) (hcC : col bc = 1) (off k x : Nat) (hk : 0 < k) (hok : off + k ≤ m.length) (hx64 : x < 18446744073709551616) {sb so_ sc : Nat} {l : List Nat} (hdl : Dig 256 l) (hll : l.length < 4294967296) (hsc : l.length ≤ sc) (hsr : Row w sb so_ (bL l)) (hsm : sb ≠ bm) (hxl : x < l.length) (hxk : k ≤ l.length - x) :
    Ret 258 [.pointer (some ⟨bc, 1, none⟩), .int .u32 (off : Nat), .slice (some ⟨sb, so_, none⟩) l.length sc, .int .u64 (x : Nat), .int .u32 (k : Nat)] w (fun v w' => v = .bool true ∧ ∃ cm', MA w' col cs (low ++ [lay m off (cutN l x k)]) bm cm' n ∧ Ch (fun b => b = bm) w w') := by
  have htp : cs[10]? = some (.int .u8 (low.length + 1 : Nat)) := by have h9 := hM.tp; rw [List.length_append, List.length_singleton] at h9; exact h9
  have hlo : cs[2 + low.length]? = some (.int .u32 (low.flatten.length : Nat)) := by have h9 := hM.bs low.length (by simp); rw [bsN_low] at h9; exact h9
  have hhi : cs[2 + (low.length + 1)]? = some (.int .u32 (low.flatten.length + m.length : Nat)) := by have h9 := hM.bs (low.length + 1) (by simp); rw [bsN_top] at h9; exact h9
  have hln : low.length + 1 ≤ 7 := by have h9 := hM.ln; rw [List.length_append, List.length_singleton] at h9; exact h9
  have hfl : low.flatten.length + m.length ≤ n := by have h9 := hM.le; rw [flat_snoc, List.length_append] at h9; exact h9
  have hnb := hM.nb
  have hmx : m.length ≤ 717280 := hM.mx m (by simp)
  have hbc0 := kC.lt
  obtain ⟨_, _, _, _, _, kM0, _⟩ := hM.pos (by omega)
  have hbl := kM0.lt
  refine enter (n := 36) Hvaa.func258 rfl rfl (Nat.le_of_ble_eq_true rfl) ?_
  have U : Ch (fun b => b = bm) w w := Ch.refl _ w
  refine c_seq (fun K1 hK1 => ?_)
  exact (by
    refine c_region ?_
    refine l_step y_assignC ?_
    refine l_nil ?_
    refine hK1 _ _ ?_
    refine fg5 4 3 2 1 0 (gS rfl (gS rfl (gS rfl (gS rfl (gS rfl g0))))) (gS rfl (gS rfl (gS rfl (gS rfl g0)))) (gS rfl (gS rfl (gS rfl g0))) (gS rfl (gS rfl g0)) (gS rfl g0) (fun g => ?_)
    refine c_seq (fun K2 hK2 => ?_)
    exact (by
      refine c_region ?_
      refine l_step (y_moveV (et g0 rfl)) ?_
      refine l_step (y_moveV (et (gS rfl (gS rfl g0)) rfl)) ?_
      refine l_step (y_moveV (et (gS rfl (gS rfl (gS rfl (gS rfl (gS rfl (gS rfl g0)))))) rfl)) ?_
      refine l_eff (e_callV cal_358 (aC (et (gS rfl (gS rfl g0)) rfl) (aC (et (gS rfl g0) rfl) (aC (et g0 rfl) aN))) (g_part kC hM hcC off k (by omega) (by omega))) (fun v3 w3 h3 => ?_)
      obtain ⟨rfl, u3⟩ := h3
      replace kC := kC.up u3
      replace hM := hM.up u3
      replace hsr := hsr.up u3
      replace U := U.tr u3
      refine l_step (y_moveV (et g0 rfl)) ?_
      refine l_step (y_ext (et g0 rfl) rfl) ?_
      refine l_step (y_ext (et (gS rfl g0) rfl) rfl) ?_
      refine l_step (y_assignV (et (gS rfl g0) rfl)) ?_
      refine l_step (y_assignV (et (gS rfl g0) rfl)) ?_
      refine l_nil ?_
      refine hK2 _ _ ?_
      refine fg4 3 2 11 12 (gS rfl (gS rfl (gS rfl (gS rfl (gS rfl (gS rfl (gS rfl (gS rfl (gS rfl (gS rfl (gS rfl (gS rfl g0)))))))))))) (gS rfl (gS rfl (gS rfl (gS rfl (gS rfl (gS rfl (gS rfl (gS rfl (gS rfl (gS rfl (gS rfl g0))))))))))) (gS rfl g0) g0 (fun g => ?_)
      refine c_seq (fun K4 hK4 => ?_)
      refine c_seq (fun K5 hK5 => ?_)
      exact (by
        refine c_region ?_
        refine l_step (y_moveV (et g0 rfl)) ?_
        refine l_step (y_not (et g0 rfl)) ?_
        refine l_nil ?_
        refine hK5 _ _ ?_
        refine fg4 3 2 11 22 (gS rfl (gS rfl (gS rfl (gS rfl (gS rfl g0))))) (gS rfl (gS rfl (gS rfl (gS rfl g0)))) (gS rfl (gS rfl (gS rfl g0))) g0 (fun g => ?_)
        refine c_false (et g0 rfl) (by rfl) ?_
        refine c_skip ?_
        refine hK4 _ _ ?_
        refine fg3 3 2 11 (gS rfl (gS rfl (gS rfl g0))) (gS rfl (gS rfl g0)) (gS rfl g0) (fun g => ?_)
        refine c_seq (fun K7 hK7 => ?_)
        exact (by
          refine c_region ?_
          refine l_step y_assignC ?_
          refine l_nil ?_
          refine hK7 _ _ ?_
          refine c_seq (fun K8 hK8 => ?_)
          refine c_seq (fun K9 hK9 => ?_)
          exact (by
            refine c_region ?_
            refine l_step (y_moveV (et (gS rfl (gS rfl (gS rfl g0))) rfl)) ?_
            refine l_step (y_moveV (et (gS rfl (gS rfl (gS rfl g0))) rfl)) ?_
            refine l_step (y_len Hvaa.underlying38 (et g0 rfl)) ?_
            refine l_step (y_conv Hvaa.underlying3 Hvaa.underlying26 (et g0 rfl) (wrapU_id uk64 ?_)) ?_
            omega
            refine l_step (y_lss (et (gS rfl (gS rfl (gS rfl g0))) rfl) (et g0 rfl)) ?_
            refine l_nil ?_
            refine hK9 _ _ ?_
            refine fg5 3 2 11 13 27 (gS rfl (gS rfl (gS rfl (gS rfl (gS rfl (gS rfl (gS rfl (gS rfl g0)))))))) (gS rfl (gS rfl (gS rfl (gS rfl (gS rfl (gS rfl (gS rfl g0))))))) (gS rfl (gS rfl (gS rfl (gS rfl (gS rfl (gS rfl g0)))))) (gS rfl (gS rfl (gS rfl (gS rfl (gS rfl g0))))) g0 (fun g => ?_)
            refine c_true (et g0 rfl) (by (exact decide_eq_true (by omega))) ?_
            exact (by
              refine c_region ?_
              refine l_step (y_moveV (et (gS rfl (gS rfl g0)) rfl)) ?_
              refine l_step (y_moveV (et (gS rfl (gS rfl (gS rfl (gS rfl g0)))) rfl)) ?_
              refine l_step (y_moveV (et (gS rfl (gS rfl (gS rfl (gS rfl (gS rfl (gS rfl g0)))))) rfl)) ?_
              refine l_step (y_slS100n Hvaa.underlying38 sz_5 (et (gS rfl g0) rfl) (et g0 rfl) ?_ ?_) ?_
              omega
              omega
              obtain ⟨cap9, _, hnc9, _, hcz, kM, hc8⟩ := hM.pos (by omega)
              refine l_eff (e_copy Hvaa.underlying38 sz_5 (et (gS rfl (gS rfl (gS rfl g0))) rfl) (et g0 rfl) (l := bL ((l.drop x).take (min (l.length - x) k))) (by rw [length_bL, List.length_take, List.length_drop]; omega) (hsr.sub2 x) (one_bL _) kM (by rw [length_bL, List.length_take, List.length_drop]; omega)) (fun v11 w11 h11 => ?_)
              obtain ⟨rfl, x11⟩ := h11
              have hm11 := hM.put (off := off) (l := ((l.drop x).take (min (l.length - x) k))) (by rw [List.length_take, List.length_drop]; omega) (by omega) ((hdl.dr _).tk _) rfl x11
              replace kC := kC.ch x11.ch (by intro hm; first | omega | (subst hm; omega))
              replace hsr := hsr.ch x11.ch (by intro hm; first | omega | (subst hm; omega))
              replace hM := hm11
              replace U := U.cc x11.ch (by intro b hb; exact .inl hb)
              have hcl : (bL ((l.drop x).take (min (l.length - x) k))).length = k := by rw [length_bL, List.length_take, List.length_drop]; omega
              rw [hcl]
              refine l_step (y_assignV (et g0 rfl)) ?_
              refine l_nil ?_
              refine hK8 _ _ ?_
              refine fg2 11 13 (gS rfl (gS rfl (gS rfl (gS rfl (gS rfl (gS rfl (gS rfl (gS rfl g0)))))))) g0 (fun g => ?_)
              refine c_seq (fun K12 hK12 => ?_)
              exact (by
                refine c_region ?_
                refine l_step (y_moveV (et (gS rfl g0) rfl)) ?_
                refine l_step (y_moveV (et (gS rfl g0) rfl)) ?_
                refine l_step (y_slS100g (i := (k : Nat)) Hvaa.underlying38 sz_5 (et (gS rfl g0) rfl) (et g0 rfl) ?_ ?_) ?_
                omega
                omega
                refine l_effN (e_clear0 Hvaa.underlying38 (et g0 rfl) (.inr (by omega))) (fun v13 w13 h13 => ?_)
                obtain ⟨rfl, hw13⟩ := h13
                replace kC := kC.up (up_eq hw13)
                replace hM := hM.up (up_eq hw13)
                replace hsr := hsr.up (up_eq hw13)
                replace U := U.tr (up_eq hw13)
                refine l_nil ?_
                refine hK12 _ _ ?_
                refine fg0 (fun g => ?_)
                refine c_seq (fun K14 hK14 => ?_)
                exact (by
                  refine c_region ?_
                  refine l_step y_assignC ?_
                  refine l_nil ?_
                  refine hK14 _ _ ?_
                  refine c_ret ?_
                  repeat with_reducible refine then_ret ?_
                  refine ret1 rfl (res_tmp (et g0 rfl)) ?_
                  have e9 := cut_split (l := l) (x := x) (k := k)
                  rw [Nat.min_eq_left (by omega : k ≤ l.length - x), Nat.sub_self, List.replicate_zero, List.append_nil] at e9
                  rw [Nat.min_eq_right (by omega : k ≤ l.length - x), e9] at hM
                  exact ⟨rfl, _, hM, U⟩))))))))
end Go.Proofs.YgvaawGreat
