import Derived.Test.YgvaawGreatD5
set_option maxRecDepth 100000
set_option linter.unusedSimpArgs false
set_option linter.unusedVariables false
namespace Go.Proofs.YgvaawGreat
open Go
section
variable {S : World → Prop} {n : Nat} {s : Nat → Value} {d : Option Nat} {ty : TypeId} {pos : String} {af : Array Edge} {g : Option (Nat × Bool)}
theorem run_equalP {T e : Nat} {a : Addr} (hU : Hvaa.prog.underlying T = some (.pointer e)) (w : World) : (Op.equal T (.pointer (some a)) (.pointer none)).run Hvaa.prog w = .ok false w := by
  unfold Op.equal
  rw [show Op.maxDepth = 9999 + 1 from rfl]
  unfold Op.equalIn
  simp [run_underlying hU]
theorem y_eqlNil {x y : Operand} {T T' e : Nat} {a : Addr} (hU : Hvaa.prog.underlying T = some (.pointer e)) (hx : ev n s x = .pointer (some a)) (hy : ev n s y = .pointer none) : Yv S n s ⟨d, .binOp .eql T x y T', ty, pos, af, g⟩ (.bool false) := fun w _ => by
  simp [execOp, hx, hy, eqGuard, binOp, run_equalP hU]
theorem y_slA011 {x h m : Operand} {T e k b o N : Nat} {kh km : IntKind} {j p : Int} (hU : Hvaa.prog.underlying T = some (.array N e)) (hs : Sz e k) (hx : ev n s x = .pointer (some ⟨b, o, none⟩)) (hh : ev n s h = .int kh j) (hm : ev n s m = .int km p) (c3 : 0 ≤ j) (c4 : j ≤ p) (c5 : 0 ≤ p) (c6 : p ≤ N) :
    Yv S n s ⟨d, .slice T x none (some h) (some m), ty, pos, af, g⟩ (.slice (some ⟨b, o, none⟩) j.toNat p.toNat) := fun w _ => by
  obtain ⟨j, rfl⟩ := Int.eq_ofNat_of_zero_le c3
  obtain ⟨p, rfl⟩ := Int.eq_ofNat_of_zero_le c5
  have e2 : j ≤ p := by omega
  have e3 : p ≤ N := by omega
  simp [execOp, Instr.sliceAt, run_underlying hU, hx, Instr.sureAddr, hh, hm, Instr.sliceBounds, Instr.sliceBound, asIntOf, run_sizeOf hs, addr_add, e2, e3]
end
theorem list4 {l : List Nat} (h : l.length = 4) : ∃ a b c d, l = [a, b, c, d] := by
  match l, h with
  | [a, b, c, d], _ => exact ⟨_, _, _, _, rfl⟩
theorem wV_val {l : List Nat} (h : l.length = 4) (hd : Dig 18446744073709551616 l) : Value.agg (uL l).toArray = wV (val 18446744073709551616 l) := by
  obtain ⟨a, b, c, d, rfl⟩ := list4 h
  refine wV_of _ _ _ _ _ hd.head hd.tail.head hd.tail.tail.head hd.tail.tail.tail.head ?_
  simp only [val_cons, val_nil]
  unfold ofL; omega
theorem wLimbs_l (l : List Nat) (w : World) (hl : l.length = 4) (hd : Dig 18446744073709551616 l) : Ret 252 [.agg (uL l).toArray] w (fun v w' => ∃ k : Nat, v = .int .u8 k ∧ IsLimbs (val 18446744073709551616 l) k ∧ Up w w') := by
  rw [wV_val hl hd]
  have := val_lt hd
  rw [hl] at this
  exact wLimbs_spec _ w this
theorem IsLimbs.eq {n k m : Nat} (h : IsLimbs n k) (h1 : n < 18446744073709551616 ^ (m + 1)) (h2 : 18446744073709551616 ^ m ≤ n) : k = m + 1 := by
  obtain ⟨h4, hlt, hge⟩ := h
  have hp : ∀ i j : Nat, 18446744073709551616 ^ i < 18446744073709551616 ^ j → i < j := fun i j hij => (Nat.pow_lt_pow_iff_right (by decide)).1 hij
  have a1 := hp m k (Nat.lt_of_le_of_lt h2 hlt)
  have a2 := hp (k - 1) (m + 1) (Nat.lt_of_le_of_lt (hge (by omega)) h1)
  omega
theorem val_top (V0 : List Nat) (top r : Nat) (hd : Dig 18446744073709551616 (V0 ++ [top])) (ht : 0 < top) : 18446744073709551616 ^ V0.length ≤ val 18446744073709551616 ((V0 ++ [top]) ++ List.replicate r 0) ∧ val 18446744073709551616 ((V0 ++ [top]) ++ List.replicate r 0) < 18446744073709551616 ^ (V0.length + 1) := by
  have h1 := val_lt hd
  rw [val_append, val_rep, Nat.mul_zero, Nat.add_zero]
  constructor
  · rw [val_snoc]
    have : 18446744073709551616 ^ V0.length * 1 ≤ 18446744073709551616 ^ V0.length * top := Nat.mul_le_mul_left _ ht
    omega
  · simpa using h1
theorem divMid_spec (b bv z r x0 top : Nat) (L M1 V0 : List Nat) (w : World) (hlu : L.length + (M1.length + 1) + z = 9) (hlv : V0.length + 1 + r = 4) (hn2 : 1 ≤ V0.length) (hml : M1.length = V0.length + 1) (hd0 : x0 < 18446744073709551616) (hdm : Dig 18446744073709551616 M1) (hdv : Dig 18446744073709551616 (V0 ++ [top])) (htop : 9223372036854775808 ≤ top) (hmv : val 18446744073709551616 M1 < val 18446744073709551616 (V0 ++ [top])) (kB : Blk w b (uL (L ++ ((x0 :: M1) ++ List.replicate z 0))).toArray) (kC : Blk w bv (uL ((V0 ++ [top]) ++ List.replicate r 0)).toArray) :
    Ret 428 [.pointer (some ⟨b, 0, none⟩), .pointer (some ⟨bv, 0, none⟩), .int .u8 ((V0.length + 1 : Nat) : Int), .int .u8 L.length] w (fun v w' => v = .bool true ∧ Up w w') := by
  have hdall : Dig 18446744073709551616 ((V0 ++ [top]) ++ List.replicate r 0) := hdv.app (Dig.rep _ _ (by decide))
  have hlall : ((V0 ++ [top]) ++ List.replicate r 0).length = 4 := by simp; omega
  refine enter (n := 46) Hvaa.func428 rfl rfl (Nat.le_of_ble_eq_true rfl) ?_
  have U := Up.refl w
  refine c_seq (fun K1 hK1 => ?_)
  refine c_region ?_
  refine l_step y_assignC ?_
  refine l_nil ?_
  refine hK1 _ _ ?_
  refine fg4 3 2 1 0 (gS rfl (gS rfl (gS rfl (gS rfl g0)))) (gS rfl (gS rfl (gS rfl g0))) (gS rfl (gS rfl g0)) (gS rfl g0) (fun g => ?_)
  refine c_seq (fun K2 hK2 => ?_)
  refine c_seq (fun K3 hK3 => ?_)
  refine c_region ?_
  refine l_step (y_moveV (et g0 rfl)) ?_
  refine l_step (y_eqlNil Hvaa.underlying470 (et g0 rfl) rfl) ?_
  refine l_step (y_moveV (et g0 rfl)) ?_
  refine l_gstep (j := 2) (t := 11) (by exact rfl) (by exact rfl) (et g0 rfl) (by decide) (y_moveV (et (gS rfl (gS rfl (gS rfl (gS rfl g0)))) rfl)) ?_
  refine l_gstep (j := 2) (t := 11) (by exact rfl) (by exact rfl) (et (gS rfl g0) rfl) (by decide) (y_eqlNil Hvaa.underlying401 (et g0 rfl) rfl) ?_
  refine l_step (y_pickF (et (gS rfl (gS rfl g0)) rfl) (et g0 rfl)) ?_
  refine l_step (y_moveV (et g0 rfl)) ?_
  refine l_gstep (j := 6) (t := 15) (by exact rfl) (by exact rfl) (et g0 rfl) (by decide) (y_moveV (et (gS rfl (gS rfl (gS rfl (gS rfl (gS rfl (gS rfl (gS rfl (gS rfl (gS rfl g0))))))))) rfl)) ?_
  refine l_gstep (j := 6) (t := 15) (by exact rfl) (by exact rfl) (et (gS rfl g0) rfl) (by decide) (y_lss (et g0 rfl) rfl) ?_
  refine l_step (y_pickF (et (gS rfl (gS rfl g0)) rfl) (et g0 rfl)) ?_
  refine l_step (y_moveV (et g0 rfl)) ?_
  refine gsplitL (i := 19) g0 (fun q4 => ?_) (fun q4 => ?_)
  · skip
    exact absurd (of_decide_eq_true q4) (by omega)
  · skip
    refine l_gstep (j := 10) (t := 19) (by exact rfl) (by exact rfl) (et g0 rfl) (by decide) (y_moveV (et (gS rfl (gS rfl (gS rfl (gS rfl (gS rfl (gS rfl (gS rfl (gS rfl (gS rfl (gS rfl (gS rfl (gS rfl (gS rfl (gS rfl g0)))))))))))))) rfl)) ?_
    refine l_gstep (j := 10) (t := 19) (by exact rfl) (by exact rfl) (et (gS rfl g0) rfl) (by decide) (y_gtr (et g0 rfl) rfl) ?_
    refine l_step (y_pickF (et (gS rfl (gS rfl g0)) rfl) (et g0 rfl)) ?_
    refine l_step (y_moveV (et g0 rfl)) ?_
    refine gsplitL (i := 23) g0 (fun q5 => ?_) (fun q5 => ?_)
    · skip
      exact absurd (of_decide_eq_true q5) (by omega)
    · skip
      refine l_gstep (j := 14) (t := 23) (by exact rfl) (by exact rfl) (et g0 rfl) (by decide) (y_moveV (et (gS rfl (gS rfl (gS rfl (gS rfl (gS rfl (gS rfl (gS rfl (gS rfl (gS rfl (gS rfl (gS rfl (gS rfl (gS rfl (gS rfl (gS rfl (gS rfl (gS rfl (gS rfl (gS rfl (gS rfl g0)))))))))))))))))))) rfl)) ?_
      refine l_gstep (j := 14) (t := 23) (by exact rfl) (by exact rfl) (et (gS rfl g0) rfl) (by decide) (y_moveV (et (gS rfl (gS rfl (gS rfl (gS rfl (gS rfl (gS rfl (gS rfl (gS rfl (gS rfl (gS rfl (gS rfl (gS rfl (gS rfl (gS rfl (gS rfl (gS rfl (gS rfl (gS rfl (gS rfl (gS rfl g0)))))))))))))))))))) rfl)) ?_
      refine l_gstep (j := 14) (t := 23) (by exact rfl) (by exact rfl) (et (gS rfl (gS rfl g0)) rfl) (by decide) (y_sub rfl (et g0 rfl) (wrapU_subN (a := 8) uk8 ?_ ?_)) ?_
      omega
      omega
      refine l_gstep (j := 14) (t := 23) (by exact rfl) (by exact rfl) (et (gS rfl (gS rfl (gS rfl g0))) rfl) (by decide) (y_gtr (et (gS rfl (gS rfl g0)) rfl) (et g0 rfl)) ?_
      refine l_step (y_pickF (et (gS rfl (gS rfl (gS rfl (gS rfl g0)))) rfl) (et g0 rfl)) ?_
      refine l_step (y_moveV (et g0 rfl)) ?_
      refine gsplitL (i := 29) g0 (fun q6 => ?_) (fun q6 => ?_)
      · skip
        exact absurd (of_decide_eq_true q6) (by omega)
      · skip
        refine l_gstep (j := 20) (t := 29) (by exact rfl) (by exact rfl) (et g0 rfl) (by decide) (y_moveV (et (gS rfl (gS rfl (gS rfl (gS rfl (gS rfl (gS rfl (gS rfl (gS rfl (gS rfl (gS rfl (gS rfl (gS rfl (gS rfl (gS rfl (gS rfl (gS rfl (gS rfl (gS rfl (gS rfl (gS rfl (gS rfl (gS rfl (gS rfl (gS rfl (gS rfl g0))))))))))))))))))))))))) rfl)) ?_
        refine l_gstep (j := 20) (t := 29) (by exact rfl) (by exact rfl) (et (gS rfl g0) rfl) (by decide) (y_nil (et g0 rfl)) ?_
        refine l_gstep (j := 20) (t := 29) (by exact rfl) (by exact rfl) (et (gS rfl (gS rfl g0)) rfl) (by decide) (y_loadB agg_65 sz_65 (et g0 rfl) (by simp only [size_uL, List.length_append, List.length_cons, List.length_nil, List.length_replicate]; omega) (at1B kC)) ?_
        refine l_geff (j := 20) (t := 29) (by exact rfl) (by exact rfl) (et (gS rfl (gS rfl (gS rfl g0))) rfl) rfl (e_callV cal_252 (aC (et g0 rfl) aN) (wLimbs_l _ _ hlall hdall)) (fun v7 w7 h7 => ?_)
        obtain ⟨kk, rfl, hlim, u7⟩ := h7
        replace kB := kB.up u7
        replace kC := kC.up u7
        replace U := U.tr u7
        have hvt := val_top V0 top r hdv (by omega)
        have hk := hlim.eq hvt.2 hvt.1
        subst hk
        refine l_gstep (j := 20) (t := 29) (by exact rfl) (by exact rfl) (et (gS rfl (gS rfl (gS rfl (gS rfl g0)))) rfl) (by decide) (y_moveV (et (gS rfl (gS rfl (gS rfl (gS rfl (gS rfl (gS rfl (gS rfl (gS rfl (gS rfl (gS rfl (gS rfl (gS rfl (gS rfl (gS rfl (gS rfl (gS rfl (gS rfl (gS rfl (gS rfl (gS rfl (gS rfl (gS rfl (gS rfl (gS rfl (gS rfl (gS rfl (gS rfl (gS rfl (gS rfl (gS rfl g0)))))))))))))))))))))))))))))) rfl)) ?_
        refine l_gstep (j := 20) (t := 29) (by exact rfl) (by exact rfl) (et (gS rfl (gS rfl (gS rfl (gS rfl (gS rfl g0))))) rfl) (by decide) (y_neq (et (gS rfl g0) rfl) (et g0 rfl)) ?_
        refine l_step (y_pickF (et (gS rfl (gS rfl (gS rfl (gS rfl (gS rfl (gS rfl g0)))))) rfl) (et g0 rfl)) ?_
        refine l_nil ?_
        refine hK3 _ _ ?_
        refine fg5 3 2 1 0 36 (gS rfl (gS rfl (gS rfl (gS rfl (gS rfl (gS rfl (gS rfl (gS rfl (gS rfl (gS rfl (gS rfl (gS rfl (gS rfl (gS rfl (gS rfl (gS rfl (gS rfl (gS rfl (gS rfl (gS rfl (gS rfl (gS rfl (gS rfl (gS rfl (gS rfl (gS rfl (gS rfl (gS rfl (gS rfl (gS rfl (gS rfl (gS rfl (gS rfl (gS rfl g0)))))))))))))))))))))))))))))))))) (gS rfl (gS rfl (gS rfl (gS rfl (gS rfl (gS rfl (gS rfl (gS rfl (gS rfl (gS rfl (gS rfl (gS rfl (gS rfl (gS rfl (gS rfl (gS rfl (gS rfl (gS rfl (gS rfl (gS rfl (gS rfl (gS rfl (gS rfl (gS rfl (gS rfl (gS rfl (gS rfl (gS rfl (gS rfl (gS rfl (gS rfl (gS rfl (gS rfl g0))))))))))))))))))))))))))))))))) (gS rfl (gS rfl (gS rfl (gS rfl (gS rfl (gS rfl (gS rfl (gS rfl (gS rfl (gS rfl (gS rfl (gS rfl (gS rfl (gS rfl (gS rfl (gS rfl (gS rfl (gS rfl (gS rfl (gS rfl (gS rfl (gS rfl (gS rfl (gS rfl (gS rfl (gS rfl (gS rfl (gS rfl (gS rfl (gS rfl (gS rfl (gS rfl g0)))))))))))))))))))))))))))))))) (gS rfl (gS rfl (gS rfl (gS rfl (gS rfl (gS rfl (gS rfl (gS rfl (gS rfl (gS rfl (gS rfl (gS rfl (gS rfl (gS rfl (gS rfl (gS rfl (gS rfl (gS rfl (gS rfl (gS rfl (gS rfl (gS rfl (gS rfl (gS rfl (gS rfl (gS rfl (gS rfl (gS rfl (gS rfl (gS rfl (gS rfl g0))))))))))))))))))))))))))))))) g0 (fun g => ?_)
        refine c_cond (et g0 rfl) (fun cB1 => ?_) (fun cB1 => ?_)
        · skip
          
          exact absurd (of_decide_eq_true cB1) (by omega)
        · skip
          
          refine c_skip ?_
          refine hK2 _ _ ?_
          refine fg4 3 2 1 0 (gS rfl (gS rfl (gS rfl (gS rfl g0)))) (gS rfl (gS rfl (gS rfl g0))) (gS rfl (gS rfl g0)) (gS rfl g0) (fun g => ?_)
          refine c_seq (fun K9 hK9 => ?_)
          refine c_draw Up 10 [(0, true), (1, true), (2, true), (3, true), (4, true), (5, true), (6, true), (7, true), (8, false), (9, true)] (by kernel_rfl) (fun w10 hu => ⟨Up.refl _, ?_⟩)
          replace kB := kB.up hu
          replace kC := kC.up hu
          replace U := U.tr hu
          have SU := Up.refl w10
          refine p_step (by exact rfl) (y_moveV (et g0 rfl)) ?_
          refine p_step (by exact rfl) (y_nil (et g0 rfl)) ?_
          refine p_step (by exact rfl) (y_slA000 Hvaa.underlying468 sz_26 (et g0 rfl) ) ?_
          refine p_step (by exact rfl) (y_moveV (et (gS rfl (gS rfl (gS rfl (gS rfl g0)))) rfl)) ?_
          refine p_step (by exact rfl) (y_nil (et g0 rfl)) ?_
          refine p_step (by exact rfl) (y_slA000 Hvaa.underlying65 sz_26 (et g0 rfl) ) ?_
          refine p_step (by exact rfl) (y_moveV (et (gS rfl (gS rfl (gS rfl (gS rfl (gS rfl (gS rfl (gS rfl (gS rfl g0)))))))) rfl)) ?_
          refine p_step (by exact rfl) (y_moveV (et (gS rfl (gS rfl (gS rfl (gS rfl (gS rfl (gS rfl (gS rfl (gS rfl (gS rfl (gS rfl g0)))))))))) rfl)) ?_
          refine p_eff (by exact rfl) (e_callV cal_424 (aC (et (gS rfl (gS rfl (gS rfl (gS rfl (gS rfl g0))))) rfl) (aC (et (gS rfl (gS rfl g0)) rfl) (aC (et (gS rfl g0) rfl) (aC (et g0 rfl) aN)))) (midHolds_spec b _ bv _ _ _ z x0 top L M1 V0 (List.replicate r 0) _ (by omega) (by decide) (by simp; omega) (by decide) hml hdm hdv htop hmv kB kC)) (fun v11 w11 h11 => ?_)
          obtain ⟨rfl, u11⟩ := h11
          replace kB := kB.up u11
          replace kC := kC.up u11
          replace U := U.tr u11
          refine ⟨.inr (SU.tr u11), ?_⟩
          replace SU := SU.tr u11
          refine p_step (by exact rfl) (y_assignV (et g0 rfl)) ?_
          refine p_nil ?_
          refine hK9 _ _ ?_
          refine fg1 8 g0 (fun g => ?_)
          refine c_ret ?_
          refine ret1 rfl (res_tmp (et g0 rfl)) ?_
          exact ⟨rfl, U⟩
theorem slE {b o o' l l' c c' : Nat} (h1 : o = o') (h2 : l = l') (h3 : c = c') : Value.slice (some ⟨b, o, none⟩) l c = Value.slice (some ⟨b, o', none⟩) l' c' := by rw [h1, h2, h3]
theorem list_last3 {l : List Nat} (h : 3 ≤ l.length) : ∃ m a b c, l = m ++ [a, b, c] := by
  obtain ⟨m1, c, rfl⟩ := snoc_of_len (l := l) (by omega)
  obtain ⟨m2, b, rfl⟩ := snoc_of_len (l := m1) (by simp at h; omega)
  obtain ⟨m3, a, rfl⟩ := snoc_of_len (l := m2) (by simp at h; omega)
  exact ⟨m3, a, b, c, by simp⟩
theorem Round_spec (b bv z r next top : Nat) (L M V00 : List Nat) (w : World) (hbb : b ≠ bv) (hlu : L.length + M.length + z = 9) (hlv : V00.length + 2 + r = 4) (hml : M.length = V00.length + 3) (hdu : Dig 18446744073709551616 M) (hdv : Dig 18446744073709551616 (V00 ++ [next, top])) (htop : 9223372036854775808 ≤ top) (hb : val 18446744073709551616 M < val 18446744073709551616 (V00 ++ [next, top]) * 18446744073709551616) (kB : Blk w b (uL (L ++ (M ++ List.replicate z 0))).toArray) (kC : Blk w bv (uL ((V00 ++ [next, top]) ++ List.replicate r 0)).toArray) :
    Ret 421 [.pointer (some ⟨b, 0, none⟩), .pointer (some ⟨bv, 0, none⟩), .int .u8 ((V00.length + 2 : Nat) : Int), .int .u8 L.length] w (fun v w' => ∃ (q f : Nat) (t : Bool) (D : List Nat), v = .tuple #[.int .u64 q, .int .u8 f, .bool t] ∧ q = val 18446744073709551616 M / val 18446744073709551616 (V00 ++ [next, top]) ∧ D.length = M.length ∧ Dig 18446744073709551616 D ∧ val 18446744073709551616 D = val 18446744073709551616 M % val 18446744073709551616 (V00 ++ [next, top]) ∧ Blk w' b (uL (L ++ (D ++ List.replicate z 0))).toArray ∧ Ch (fun k => k = b) w w') := by
  have lB := kB.lt
  have lC := kC.lt
  obtain ⟨M0, low, mid, high, rfl⟩ := list_last3 (l := M) (by omega)
  obtain ⟨x0, M1, hx⟩ := cons_of_len (l := M0 ++ [low, mid, high]) (by simp)
  have hdx : Dig 18446744073709551616 (x0 :: M1) := hx ▸ hdu
  have hmv : val 18446744073709551616 M1 < val 18446744073709551616 (V00 ++ [next, top]) := by rw [hx, val_cons] at hb; omega
  have hl1 := congrArg List.length hx
  simp only [List.length_append, List.length_cons, List.length_nil] at hlu hml hl1
  refine enter (n := 38) Hvaa.func421 rfl rfl (Nat.le_of_ble_eq_true rfl) ?_
  have U : Ch (fun k => k = b) w w := Ch.refl _ w
  refine c_seq (fun K1 hK1 => ?_)
  refine c_region ?_
  refine l_step y_assignC ?_
  refine l_step y_assignC ?_
  refine l_step y_assignC ?_
  refine l_nil ?_
  refine hK1 _ _ ?_
  refine fg4 3 2 1 0 (gS rfl (gS rfl (gS rfl (gS rfl (gS rfl (gS rfl g0)))))) (gS rfl (gS rfl (gS rfl (gS rfl (gS rfl g0))))) (gS rfl (gS rfl (gS rfl (gS rfl g0)))) (gS rfl (gS rfl (gS rfl g0))) (fun g => ?_)
  refine c_seq (fun K2 hK2 => ?_)
  refine c_seq (fun K3 hK3 => ?_)
  refine c_region ?_
  refine l_step (y_moveV (et g0 rfl)) ?_
  refine l_step (y_moveV (et (gS rfl (gS rfl g0)) rfl)) ?_
  refine l_step (y_moveV (et (gS rfl (gS rfl (gS rfl (gS rfl g0)))) rfl)) ?_
  refine l_step (y_moveV (et (gS rfl (gS rfl (gS rfl (gS rfl (gS rfl (gS rfl g0)))))) rfl)) ?_
  have hmid := divMid_spec b bv z r x0 top L M1 (V00 ++ [next]) w (by omega) (by simp; omega) (by simp) (by simp; omega) hdx.head hdx.tail (by simpa using hdv) htop (by simpa using hmv) (by rw [← hx]; exact kB) (by simpa using kC)
  simp only [List.length_append, List.length_cons, List.length_nil] at hmid
  refine l_eff (e_callV cal_428 (aC (et (gS rfl (gS rfl (gS rfl g0))) rfl) (aC (et (gS rfl (gS rfl g0)) rfl) (aC (et (gS rfl g0) rfl) (aC (et g0 rfl) aN)))) hmid) (fun v4 w4 h4 => ?_)
  obtain ⟨rfl, u4⟩ := h4
  replace kB := kB.up u4
  replace kC := kC.up u4
  replace U := U.tr u4
  refine l_step (y_not (et g0 rfl)) ?_
  refine l_nil ?_
  refine hK3 _ _ ?_
  refine fg5 3 2 1 0 16 (gS rfl (gS rfl (gS rfl (gS rfl (gS rfl (gS rfl (gS rfl (gS rfl (gS rfl g0))))))))) (gS rfl (gS rfl (gS rfl (gS rfl (gS rfl (gS rfl (gS rfl (gS rfl g0)))))))) (gS rfl (gS rfl (gS rfl (gS rfl (gS rfl (gS rfl (gS rfl g0))))))) (gS rfl (gS rfl (gS rfl (gS rfl (gS rfl (gS rfl g0)))))) g0 (fun g => ?_)
  refine c_false (et g0 rfl) (by rfl) ?_
  refine c_skip ?_
  refine hK2 _ _ ?_
  refine fg4 3 2 1 0 (gS rfl (gS rfl (gS rfl (gS rfl g0)))) (gS rfl (gS rfl (gS rfl g0))) (gS rfl (gS rfl g0)) (gS rfl g0) (fun g => ?_)
  refine c_seq (fun K6 hK6 => ?_)
  refine c_draw (Ch (fun k => k = b)) 24 [(0, true), (1, true), (2, true), (3, true), (4, true), (5, true), (6, true), (7, true), (8, true), (9, true), (10, true), (11, true), (12, true), (13, true), (14, true), (15, true), (16, true), (17, false), (18, true), (19, true), (20, true), (21, true), (22, true), (23, true)] (by kernel_rfl) (fun w7 hu => ⟨Ch.refl _ _, ?_⟩)
  replace kB := kB.up hu
  replace kC := kC.up hu
  replace U := U.tr hu
  have SU : (Ch (fun k => k = b)) w7 w7 := Ch.refl _ _
  refine p_step (by exact rfl) (y_moveV (et g0 rfl)) ?_
  refine p_step (by exact rfl) (y_nil (et g0 rfl)) ?_
  refine p_step (by exact rfl) (y_moveV (et (gS rfl (gS rfl (gS rfl (gS rfl (gS rfl g0))))) rfl)) ?_
  refine p_step (by exact rfl) (y_moveV (et (gS rfl (gS rfl (gS rfl (gS rfl (gS rfl (gS rfl g0)))))) rfl)) ?_
  refine p_step (by exact rfl) (y_moveV (et (gS rfl (gS rfl (gS rfl (gS rfl (gS rfl (gS rfl g0)))))) rfl)) ?_
  refine p_step (by exact rfl) (y_add (et (gS rfl g0) rfl) (et g0 rfl) (wrapU_addN uk8 ?_)) ?_
  omega
  refine p_step (by exact rfl) (y_add (et g0 rfl) rfl (wrapU_addN (b := 1) uk8 ?_)) ?_
  omega
  refine p_step (by exact rfl) (y_moveV (et (gS rfl (gS rfl (gS rfl (gS rfl (gS rfl (gS rfl (gS rfl (gS rfl (gS rfl (gS rfl g0)))))))))) rfl)) ?_
  refine p_step (by exact rfl) (y_moveV (et (gS rfl (gS rfl (gS rfl (gS rfl (gS rfl (gS rfl (gS rfl (gS rfl (gS rfl (gS rfl g0)))))))))) rfl)) ?_
  refine p_step (by exact rfl) (y_add (et (gS rfl g0) rfl) (et g0 rfl) (wrapU_addN uk8 ?_)) ?_
  omega
  refine p_step (by exact rfl) (y_add (et g0 rfl) rfl (wrapU_addN (b := 1) uk8 ?_)) ?_
  omega
  refine p_step (by exact rfl) ((y_slA111 Hvaa.underlying468 sz_26 (et (gS rfl (gS rfl (gS rfl (gS rfl (gS rfl (gS rfl (gS rfl (gS rfl (gS rfl g0))))))))) rfl) (et (gS rfl (gS rfl (gS rfl (gS rfl (gS rfl (gS rfl (gS rfl (gS rfl g0)))))))) rfl) (et (gS rfl (gS rfl (gS rfl (gS rfl g0)))) rfl) (et g0 rfl) ?_ ?_ ?_ ?_ ?_ ?_ ?_).to (slE (o' := L.length) (l' := (M0 ++ [low, mid, high]).length) (c' := (M0 ++ [low, mid, high]).length) (by omega) (by simp; omega) (by simp; omega))) ?_
  omega
  omega
  omega
  omega
  omega
  omega
  omega
  refine p_step (by exact rfl) (y_moveV (et (gS rfl (gS rfl (gS rfl (gS rfl (gS rfl (gS rfl (gS rfl (gS rfl (gS rfl (gS rfl (gS rfl (gS rfl (gS rfl g0))))))))))))) rfl)) ?_
  refine p_step (by exact rfl) (y_nil (et g0 rfl)) ?_
  refine p_step (by exact rfl) (y_moveV (et (gS rfl (gS rfl (gS rfl (gS rfl (gS rfl (gS rfl (gS rfl (gS rfl (gS rfl (gS rfl (gS rfl (gS rfl (gS rfl (gS rfl (gS rfl (gS rfl g0)))))))))))))))) rfl)) ?_
  refine p_step (by exact rfl) (y_moveV (et (gS rfl (gS rfl (gS rfl (gS rfl (gS rfl (gS rfl (gS rfl (gS rfl (gS rfl (gS rfl (gS rfl (gS rfl (gS rfl (gS rfl (gS rfl (gS rfl (gS rfl g0))))))))))))))))) rfl)) ?_
  refine p_step (by exact rfl) ((y_slA011 Hvaa.underlying65 sz_26 (et (gS rfl (gS rfl g0)) rfl) (et (gS rfl g0) rfl) (et g0 rfl) ?_ ?_ ?_ ?_).to (slE (o' := 0) (l' := (V00 ++ [next, top]).length) (c' := (V00 ++ [next, top]).length) rfl (by simp; omega) (by simp; omega))) ?_
  omega
  omega
  omega
  omega
  refine p_eff (by exact rfl) (e_callV cal_419 (aC (et (gS rfl (gS rfl (gS rfl (gS rfl (gS rfl g0))))) rfl) (aC (et g0 rfl) aN)) (round_spec b L.length _ bv _ L M0 (List.replicate z 0) V00 (List.replicate r 0) low mid high next top _ hbb rfl (by omega) (by omega) hdu hdv htop hb kB kC)) (fun v8 w8 h8 => ?_)
  obtain ⟨q, f, t, D, rfl, hq, hDl, hD, hDv, nB, c8⟩ := h8
  replace kC := kC.ch c8 (by omega)
  replace kB := nB
  replace U := U.cc c8 (by intro b hb; first | omega | exact .inl hb | exact .inr (hb ▸ U))
  replace SU := SU.cc c8 (by intro b hb; first | exact .inl hb | omega)
  refine ⟨.inr SU, ?_⟩
  refine p_step (by exact rfl) (y_ext (et g0 rfl) rfl) ?_
  refine p_step (by exact rfl) (y_ext (et (gS rfl g0) rfl) rfl) ?_
  refine p_step (by exact rfl) (y_ext (et (gS rfl (gS rfl g0)) rfl) rfl) ?_
  refine p_step (by exact rfl) (y_assignV (et (gS rfl (gS rfl g0)) rfl)) ?_
  refine p_step (by exact rfl) (y_assignV (et (gS rfl (gS rfl g0)) rfl)) ?_
  refine p_step (by exact rfl) (y_assignV (et (gS rfl (gS rfl g0)) rfl)) ?_
  refine p_nil ?_
  refine hK6 _ _ ?_
  refine fg3 8 9 10 (gS rfl (gS rfl g0)) (gS rfl g0) g0 (fun g => ?_)
  refine c_ret ?_
  refine ret3 rfl (res_tmp (et (gS rfl (gS rfl g0)) rfl)) (res_tmp (et (gS rfl g0) rfl)) (res_tmp (et g0 rfl)) ?_
  exact ⟨q, f, t, D, rfl, hq, hDl, hD, hDv, kB, U⟩
end Go.Proofs.YgvaawGreat
