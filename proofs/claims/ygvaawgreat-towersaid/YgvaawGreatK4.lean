import Derived.Test.YgvaawGreatK3
import Derived.Test.YgvaawGreatY26
set_option maxRecDepth 100000
set_option maxHeartbeats 4000000
set_option linter.unusedSimpArgs false
set_option linter.unusedVariables false
namespace Go.Proofs.YgvaawGreat
open Go
theorem x64 {a b : Nat} (ha : a < 18446744073709551616) (hb : b < 18446744073709551616) : a ^^^ b < 18446744073709551616 := Nat.xor_lt_two_pow (n := 64) ha hb
theorem and64 {a b : Nat} (hb : b < 18446744073709551616) : a &&& b < 18446744073709551616 := Nat.lt_of_le_of_lt Nat.and_le_right hb
theorem rotl_lt64 {x k : Nat} (hx : x < 18446744073709551616) (hk : k < 64) : rotl x k < 18446744073709551616 := by
  unfold rotl
  rw [Nat.add_comm, ← or_add (rot_low hx hk) (rot_hi hk)]
  refine Nat.or_lt_two_pow (n := 64) ?_ (Nat.mod_lt _ (by decide))
  exact Nat.lt_of_lt_of_le (rot_low hx hk) (Nat.pow_le_pow_right (by decide) (by omega))
theorem not64 (a : Nat) : 18446744073709551615 - a < 18446744073709551616 := by omega
def rndL (a0 a1 a2 a3 a4 a5 a6 a7 a8 a9 a10 a11 a12 a13 a14 a15 a16 a17 a18 a19 a20 a21 a22 a23 a24 : Nat) : List Nat :=
  let c0 := a0 ^^^ a5 ^^^ a10 ^^^ a15 ^^^ a20
  let c1 := a1 ^^^ a6 ^^^ a11 ^^^ a16 ^^^ a21
  let c2 := a2 ^^^ a7 ^^^ a12 ^^^ a17 ^^^ a22
  let c3 := a3 ^^^ a8 ^^^ a13 ^^^ a18 ^^^ a23
  let c4 := a4 ^^^ a9 ^^^ a14 ^^^ a19 ^^^ a24
  let d0 := c4 ^^^ rotl c1 1
  let d1 := c0 ^^^ rotl c2 1
  let d2 := c1 ^^^ rotl c3 1
  let d3 := c2 ^^^ rotl c4 1
  let d4 := c3 ^^^ rotl c0 1
  let s0 := a0 ^^^ d0
  let s1 := rotl (a6 ^^^ d1) 44
  let s2 := rotl (a12 ^^^ d2) 43
  let s3 := rotl (a18 ^^^ d3) 21
  let s4 := rotl (a24 ^^^ d4) 14
  let t0 := rotl (a3 ^^^ d3) 28
  let t1 := rotl (a9 ^^^ d4) 20
  let t2 := rotl (a10 ^^^ d0) 3
  let t3 := rotl (a16 ^^^ d1) 45
  let t4 := rotl (a22 ^^^ d2) 61
  let u0 := rotl (a1 ^^^ d1) 1
  let u1 := rotl (a7 ^^^ d2) 6
  let u2 := rotl (a13 ^^^ d3) 25
  let u3 := rotl (a19 ^^^ d4) 8
  let u4 := rotl (a20 ^^^ d0) 18
  let v0 := rotl (a4 ^^^ d4) 27
  let v1 := rotl (a5 ^^^ d0) 36
  let v2 := rotl (a11 ^^^ d1) 10
  let v3 := rotl (a17 ^^^ d2) 15
  let v4 := rotl (a23 ^^^ d3) 56
  let x0 := rotl (a2 ^^^ d2) 62
  let x1 := rotl (a8 ^^^ d3) 55
  let x2 := rotl (a14 ^^^ d4) 39
  let x3 := rotl (a15 ^^^ d0) 41
  let x4 := rotl (a21 ^^^ d1) 2
  [s0 ^^^ ((18446744073709551615 - s1) &&& s2), s1 ^^^ ((18446744073709551615 - s2) &&& s3), s2 ^^^ ((18446744073709551615 - s3) &&& s4), s3 ^^^ ((18446744073709551615 - s4) &&& s0), s4 ^^^ ((18446744073709551615 - s0) &&& s1), t0 ^^^ ((18446744073709551615 - t1) &&& t2), t1 ^^^ ((18446744073709551615 - t2) &&& t3), t2 ^^^ ((18446744073709551615 - t3) &&& t4), t3 ^^^ ((18446744073709551615 - t4) &&& t0), t4 ^^^ ((18446744073709551615 - t0) &&& t1), u0 ^^^ ((18446744073709551615 - u1) &&& u2), u1 ^^^ ((18446744073709551615 - u2) &&& u3), u2 ^^^ ((18446744073709551615 - u3) &&& u4), u3 ^^^ ((18446744073709551615 - u4) &&& u0), u4 ^^^ ((18446744073709551615 - u0) &&& u1), v0 ^^^ ((18446744073709551615 - v1) &&& v2), v1 ^^^ ((18446744073709551615 - v2) &&& v3), v2 ^^^ ((18446744073709551615 - v3) &&& v4), v3 ^^^ ((18446744073709551615 - v4) &&& v0), v4 ^^^ ((18446744073709551615 - v0) &&& v1), x0 ^^^ ((18446744073709551615 - x1) &&& x2), x1 ^^^ ((18446744073709551615 - x2) &&& x3), x2 ^^^ ((18446744073709551615 - x3) &&& x4), x3 ^^^ ((18446744073709551615 - x4) &&& x0), x4 ^^^ ((18446744073709551615 - x0) &&& x1)]
theorem kec_round (b : Nat) (a0 a1 a2 a3 a4 a5 a6 a7 a8 a9 a10 a11 a12 a13 a14 a15 a16 a17 a18 a19 a20 a21 a22 a23 a24 : Nat) (w : World) (h0 : a0 < 18446744073709551616) (h1 : a1 < 18446744073709551616) (h2 : a2 < 18446744073709551616) (h3 : a3 < 18446744073709551616) (h4 : a4 < 18446744073709551616) (h5 : a5 < 18446744073709551616) (h6 : a6 < 18446744073709551616) (h7 : a7 < 18446744073709551616) (h8 : a8 < 18446744073709551616) (h9 : a9 < 18446744073709551616) (h10 : a10 < 18446744073709551616) (h11 : a11 < 18446744073709551616) (h12 : a12 < 18446744073709551616) (h13 : a13 < 18446744073709551616) (h14 : a14 < 18446744073709551616) (h15 : a15 < 18446744073709551616) (h16 : a16 < 18446744073709551616) (h17 : a17 < 18446744073709551616) (h18 : a18 < 18446744073709551616) (h19 : a19 < 18446744073709551616) (h20 : a20 < 18446744073709551616) (h21 : a21 < 18446744073709551616) (h22 : a22 < 18446744073709551616) (h23 : a23 < 18446744073709551616) (h24 : a24 < 18446744073709551616) (kA : Blk w b (uL [a0, a1, a2, a3, a4, a5, a6, a7, a8, a9, a10, a11, a12, a13, a14, a15, a16, a17, a18, a19, a20, a21, a22, a23, a24]).toArray) :
    Ret 397 [.pointer (some ⟨b, 0, none⟩)] w (fun v w' => v = .tuple #[] ∧ Blk w' b (uL (rndL a0 a1 a2 a3 a4 a5 a6 a7 a8 a9 a10 a11 a12 a13 a14 a15 a16 a17 a18 a19 a20 a21 a22 a23 a24)).toArray ∧ Ch (fun k => k = b) w w') := by
  have lA := kA.lt
  refine enter (n := 576) Hvaa.func397 rfl rfl (Nat.le_of_ble_eq_true rfl) ?_
  have U : Ch (fun k => k = b) w w := Ch.refl _ w
  refine c_seq (fun K1 hK1 => ?_)
  refine c_draw Up 25 [(0, true), (1, true), (2, true), (3, true), (4, true), (5, true), (6, true), (7, true), (8, true), (9, true), (10, true), (11, true), (12, true), (13, true), (14, true), (15, true), (16, true), (17, true), (18, true), (19, true), (20, true), (21, true), (22, true), (23, true), (24, true)] (by kernel_rfl) (fun w2 hu => ⟨Up.refl _, ?_⟩)
  replace kA := kA.up hu
  replace U := U.tr hu
  have SU := Up.refl w2
  refine p_step (by exact rfl) (y_moveV (et g0 rfl)) ?_
  refine p_step (by exact rfl) (y_nil (et g0 rfl)) ?_
  refine p_step (by exact rfl) (y_idxAC 0 0 Hvaa.underlying318 sz_26 (et g0 rfl) rfl rfl rfl) ?_
  refine p_step (by exact rfl) (y_load1 one_26 (et g0 rfl) (atS (kA.cell rfl))) ?_
  refine p_step (by exact rfl) (y_moveV (et (gS rfl (gS rfl (gS rfl (gS rfl g0)))) rfl)) ?_
  refine p_step (by exact rfl) (y_nil (et g0 rfl)) ?_
  refine p_step (by exact rfl) (y_idxAC 5 5 Hvaa.underlying318 sz_26 (et g0 rfl) rfl rfl rfl) ?_
  refine p_step (by exact rfl) (y_load1 one_26 (et g0 rfl) (atS (kA.cell rfl))) ?_
  refine p_step (by exact rfl) (y_xor uk64 (et (gS rfl (gS rfl (gS rfl (gS rfl g0)))) rfl) (et g0 rfl) ?_ ?_) ?_
  repeat' first | assumption | refine rotl_lt64 ?_ (by decide) | refine x64 ?_ ?_ | refine and64 ?_ | exact not64 _
  repeat' first | assumption | refine rotl_lt64 ?_ (by decide) | refine x64 ?_ ?_ | refine and64 ?_ | exact not64 _
  refine p_step (by exact rfl) (y_moveV (et (gS rfl (gS rfl (gS rfl (gS rfl (gS rfl (gS rfl (gS rfl (gS rfl (gS rfl g0))))))))) rfl)) ?_
  refine p_step (by exact rfl) (y_nil (et g0 rfl)) ?_
  refine p_step (by exact rfl) (y_idxAC 10 10 Hvaa.underlying318 sz_26 (et g0 rfl) rfl rfl rfl) ?_
  refine p_step (by exact rfl) (y_load1 one_26 (et g0 rfl) (atS (kA.cell rfl))) ?_
  refine p_step (by exact rfl) (y_xor uk64 (et (gS rfl (gS rfl (gS rfl (gS rfl g0)))) rfl) (et g0 rfl) ?_ ?_) ?_
  repeat' first | assumption | refine rotl_lt64 ?_ (by decide) | refine x64 ?_ ?_ | refine and64 ?_ | exact not64 _
  repeat' first | assumption | refine rotl_lt64 ?_ (by decide) | refine x64 ?_ ?_ | refine and64 ?_ | exact not64 _
  refine p_step (by exact rfl) (y_moveV (et (gS rfl (gS rfl (gS rfl (gS rfl (gS rfl (gS rfl (gS rfl (gS rfl (gS rfl (gS rfl (gS rfl (gS rfl (gS rfl (gS rfl g0)))))))))))))) rfl)) ?_
  refine p_step (by exact rfl) (y_nil (et g0 rfl)) ?_
  refine p_step (by exact rfl) (y_idxAC 15 15 Hvaa.underlying318 sz_26 (et g0 rfl) rfl rfl rfl) ?_
  refine p_step (by exact rfl) (y_load1 one_26 (et g0 rfl) (atS (kA.cell rfl))) ?_
  refine p_step (by exact rfl) (y_xor uk64 (et (gS rfl (gS rfl (gS rfl (gS rfl g0)))) rfl) (et g0 rfl) ?_ ?_) ?_
  repeat' first | assumption | refine rotl_lt64 ?_ (by decide) | refine x64 ?_ ?_ | refine and64 ?_ | exact not64 _
  repeat' first | assumption | refine rotl_lt64 ?_ (by decide) | refine x64 ?_ ?_ | refine and64 ?_ | exact not64 _
  refine p_step (by exact rfl) (y_moveV (et (gS rfl (gS rfl (gS rfl (gS rfl (gS rfl (gS rfl (gS rfl (gS rfl (gS rfl (gS rfl (gS rfl (gS rfl (gS rfl (gS rfl (gS rfl (gS rfl (gS rfl (gS rfl (gS rfl g0))))))))))))))))))) rfl)) ?_
  refine p_step (by exact rfl) (y_nil (et g0 rfl)) ?_
  refine p_step (by exact rfl) (y_idxAC 20 20 Hvaa.underlying318 sz_26 (et g0 rfl) rfl rfl rfl) ?_
  refine p_step (by exact rfl) (y_load1 one_26 (et g0 rfl) (atS (kA.cell rfl))) ?_
  refine p_step (by exact rfl) (y_xor uk64 (et (gS rfl (gS rfl (gS rfl (gS rfl g0)))) rfl) (et g0 rfl) ?_ ?_) ?_
  repeat' first | assumption | refine rotl_lt64 ?_ (by decide) | refine x64 ?_ ?_ | refine and64 ?_ | exact not64 _
  repeat' first | assumption | refine rotl_lt64 ?_ (by decide) | refine x64 ?_ ?_ | refine and64 ?_ | exact not64 _
  obtain ⟨c0, ec0⟩ : ∃ z, Hid (z = a0 ^^^ a5 ^^^ a10 ^^^ a15 ^^^ a20) := ⟨_, ⟨rfl⟩⟩
  have bc0 : c0 < 18446744073709551616 := by rw [ec0.out]; repeat' first | assumption | refine rotl_lt64 ?_ (by decide) | refine x64 ?_ ?_ | refine and64 ?_ | exact not64 _
  rw [← ec0.out]
  refine p_step (by exact rfl) (y_assignV (et g0 rfl)) ?_
  refine p_nil ?_
  refine hK1 _ _ ?_
  refine fg2 0 2 (gS rfl (gS rfl (gS rfl (gS rfl (gS rfl (gS rfl (gS rfl (gS rfl (gS rfl (gS rfl (gS rfl (gS rfl (gS rfl (gS rfl (gS rfl (gS rfl (gS rfl (gS rfl (gS rfl (gS rfl (gS rfl (gS rfl (gS rfl (gS rfl (gS rfl g0))))))))))))))))))))))))) g0 (fun g => ?_)
  refine c_seq (fun K3 hK3 => ?_)
  refine c_draw Up 25 [(0, true), (1, true), (2, true), (3, true), (4, true), (5, true), (6, true), (7, true), (8, true), (9, true), (10, true), (11, true), (12, true), (13, true), (14, true), (15, true), (16, true), (17, true), (18, true), (19, true), (20, true), (21, true), (22, true), (23, true), (24, true)] (by kernel_rfl) (fun w4 hu => ⟨Up.refl _, ?_⟩)
  replace kA := kA.up hu
  replace U := U.tr hu
  have SU := Up.refl w4
  refine p_step (by exact rfl) (y_moveV (et (gS rfl g0) rfl)) ?_
  refine p_step (by exact rfl) (y_nil (et g0 rfl)) ?_
  refine p_step (by exact rfl) (y_idxAC 1 1 Hvaa.underlying318 sz_26 (et g0 rfl) rfl rfl rfl) ?_
  refine p_step (by exact rfl) (y_load1 one_26 (et g0 rfl) (atS (kA.cell rfl))) ?_
  refine p_step (by exact rfl) (y_moveV (et (gS rfl (gS rfl (gS rfl (gS rfl (gS rfl g0))))) rfl)) ?_
  refine p_step (by exact rfl) (y_nil (et g0 rfl)) ?_
  refine p_step (by exact rfl) (y_idxAC 6 6 Hvaa.underlying318 sz_26 (et g0 rfl) rfl rfl rfl) ?_
  refine p_step (by exact rfl) (y_load1 one_26 (et g0 rfl) (atS (kA.cell rfl))) ?_
  refine p_step (by exact rfl) (y_xor uk64 (et (gS rfl (gS rfl (gS rfl (gS rfl g0)))) rfl) (et g0 rfl) ?_ ?_) ?_
  repeat' first | assumption | refine rotl_lt64 ?_ (by decide) | refine x64 ?_ ?_ | refine and64 ?_ | exact not64 _
  repeat' first | assumption | refine rotl_lt64 ?_ (by decide) | refine x64 ?_ ?_ | refine and64 ?_ | exact not64 _
  refine p_step (by exact rfl) (y_moveV (et (gS rfl (gS rfl (gS rfl (gS rfl (gS rfl (gS rfl (gS rfl (gS rfl (gS rfl (gS rfl g0)))))))))) rfl)) ?_
  refine p_step (by exact rfl) (y_nil (et g0 rfl)) ?_
  refine p_step (by exact rfl) (y_idxAC 11 11 Hvaa.underlying318 sz_26 (et g0 rfl) rfl rfl rfl) ?_
  refine p_step (by exact rfl) (y_load1 one_26 (et g0 rfl) (atS (kA.cell rfl))) ?_
  refine p_step (by exact rfl) (y_xor uk64 (et (gS rfl (gS rfl (gS rfl (gS rfl g0)))) rfl) (et g0 rfl) ?_ ?_) ?_
  repeat' first | assumption | refine rotl_lt64 ?_ (by decide) | refine x64 ?_ ?_ | refine and64 ?_ | exact not64 _
  repeat' first | assumption | refine rotl_lt64 ?_ (by decide) | refine x64 ?_ ?_ | refine and64 ?_ | exact not64 _
  refine p_step (by exact rfl) (y_moveV (et (gS rfl (gS rfl (gS rfl (gS rfl (gS rfl (gS rfl (gS rfl (gS rfl (gS rfl (gS rfl (gS rfl (gS rfl (gS rfl (gS rfl (gS rfl g0))))))))))))))) rfl)) ?_
  refine p_step (by exact rfl) (y_nil (et g0 rfl)) ?_
  refine p_step (by exact rfl) (y_idxAC 16 16 Hvaa.underlying318 sz_26 (et g0 rfl) rfl rfl rfl) ?_
  refine p_step (by exact rfl) (y_load1 one_26 (et g0 rfl) (atS (kA.cell rfl))) ?_
  refine p_step (by exact rfl) (y_xor uk64 (et (gS rfl (gS rfl (gS rfl (gS rfl g0)))) rfl) (et g0 rfl) ?_ ?_) ?_
  repeat' first | assumption | refine rotl_lt64 ?_ (by decide) | refine x64 ?_ ?_ | refine and64 ?_ | exact not64 _
  repeat' first | assumption | refine rotl_lt64 ?_ (by decide) | refine x64 ?_ ?_ | refine and64 ?_ | exact not64 _
  refine p_step (by exact rfl) (y_moveV (et (gS rfl (gS rfl (gS rfl (gS rfl (gS rfl (gS rfl (gS rfl (gS rfl (gS rfl (gS rfl (gS rfl (gS rfl (gS rfl (gS rfl (gS rfl (gS rfl (gS rfl (gS rfl (gS rfl (gS rfl g0)))))))))))))))))))) rfl)) ?_
  refine p_step (by exact rfl) (y_nil (et g0 rfl)) ?_
  refine p_step (by exact rfl) (y_idxAC 21 21 Hvaa.underlying318 sz_26 (et g0 rfl) rfl rfl rfl) ?_
  refine p_step (by exact rfl) (y_load1 one_26 (et g0 rfl) (atS (kA.cell rfl))) ?_
  refine p_step (by exact rfl) (y_xor uk64 (et (gS rfl (gS rfl (gS rfl (gS rfl g0)))) rfl) (et g0 rfl) ?_ ?_) ?_
  repeat' first | assumption | refine rotl_lt64 ?_ (by decide) | refine x64 ?_ ?_ | refine and64 ?_ | exact not64 _
  repeat' first | assumption | refine rotl_lt64 ?_ (by decide) | refine x64 ?_ ?_ | refine and64 ?_ | exact not64 _
  obtain ⟨c1, ec1⟩ : ∃ z, Hid (z = a1 ^^^ a6 ^^^ a11 ^^^ a16 ^^^ a21) := ⟨_, ⟨rfl⟩⟩
  have bc1 : c1 < 18446744073709551616 := by rw [ec1.out]; repeat' first | assumption | refine rotl_lt64 ?_ (by decide) | refine x64 ?_ ?_ | refine and64 ?_ | exact not64 _
  rw [← ec1.out]
  refine p_step (by exact rfl) (y_assignV (et g0 rfl)) ?_
  refine p_nil ?_
  refine hK3 _ _ ?_
  refine fg3 0 2 3 (gS rfl (gS rfl (gS rfl (gS rfl (gS rfl (gS rfl (gS rfl (gS rfl (gS rfl (gS rfl (gS rfl (gS rfl (gS rfl (gS rfl (gS rfl (gS rfl (gS rfl (gS rfl (gS rfl (gS rfl (gS rfl (gS rfl (gS rfl (gS rfl (gS rfl (gS rfl g0)))))))))))))))))))))))))) (gS rfl (gS rfl (gS rfl (gS rfl (gS rfl (gS rfl (gS rfl (gS rfl (gS rfl (gS rfl (gS rfl (gS rfl (gS rfl (gS rfl (gS rfl (gS rfl (gS rfl (gS rfl (gS rfl (gS rfl (gS rfl (gS rfl (gS rfl (gS rfl (gS rfl g0))))))))))))))))))))))))) g0 (fun g => ?_)
  refine c_seq (fun K5 hK5 => ?_)
  refine c_draw Up 25 [(0, true), (1, true), (2, true), (3, true), (4, true), (5, true), (6, true), (7, true), (8, true), (9, true), (10, true), (11, true), (12, true), (13, true), (14, true), (15, true), (16, true), (17, true), (18, true), (19, true), (20, true), (21, true), (22, true), (23, true), (24, true)] (by kernel_rfl) (fun w6 hu => ⟨Up.refl _, ?_⟩)
  replace kA := kA.up hu
  replace U := U.tr hu
  have SU := Up.refl w6
  refine p_step (by exact rfl) (y_moveV (et (gS rfl (gS rfl g0)) rfl)) ?_
  refine p_step (by exact rfl) (y_nil (et g0 rfl)) ?_
  refine p_step (by exact rfl) (y_idxAC 2 2 Hvaa.underlying318 sz_26 (et g0 rfl) rfl rfl rfl) ?_
  refine p_step (by exact rfl) (y_load1 one_26 (et g0 rfl) (atS (kA.cell rfl))) ?_
  refine p_step (by exact rfl) (y_moveV (et (gS rfl (gS rfl (gS rfl (gS rfl (gS rfl (gS rfl g0)))))) rfl)) ?_
  refine p_step (by exact rfl) (y_nil (et g0 rfl)) ?_
  refine p_step (by exact rfl) (y_idxAC 7 7 Hvaa.underlying318 sz_26 (et g0 rfl) rfl rfl rfl) ?_
  refine p_step (by exact rfl) (y_load1 one_26 (et g0 rfl) (atS (kA.cell rfl))) ?_
  refine p_step (by exact rfl) (y_xor uk64 (et (gS rfl (gS rfl (gS rfl (gS rfl g0)))) rfl) (et g0 rfl) ?_ ?_) ?_
  repeat' first | assumption | refine rotl_lt64 ?_ (by decide) | refine x64 ?_ ?_ | refine and64 ?_ | exact not64 _
  repeat' first | assumption | refine rotl_lt64 ?_ (by decide) | refine x64 ?_ ?_ | refine and64 ?_ | exact not64 _
  refine p_step (by exact rfl) (y_moveV (et (gS rfl (gS rfl (gS rfl (gS rfl (gS rfl (gS rfl (gS rfl (gS rfl (gS rfl (gS rfl (gS rfl g0))))))))))) rfl)) ?_
  refine p_step (by exact rfl) (y_nil (et g0 rfl)) ?_
  refine p_step (by exact rfl) (y_idxAC 12 12 Hvaa.underlying318 sz_26 (et g0 rfl) rfl rfl rfl) ?_
  refine p_step (by exact rfl) (y_load1 one_26 (et g0 rfl) (atS (kA.cell rfl))) ?_
  refine p_step (by exact rfl) (y_xor uk64 (et (gS rfl (gS rfl (gS rfl (gS rfl g0)))) rfl) (et g0 rfl) ?_ ?_) ?_
  repeat' first | assumption | refine rotl_lt64 ?_ (by decide) | refine x64 ?_ ?_ | refine and64 ?_ | exact not64 _
  repeat' first | assumption | refine rotl_lt64 ?_ (by decide) | refine x64 ?_ ?_ | refine and64 ?_ | exact not64 _
  refine p_step (by exact rfl) (y_moveV (et (gS rfl (gS rfl (gS rfl (gS rfl (gS rfl (gS rfl (gS rfl (gS rfl (gS rfl (gS rfl (gS rfl (gS rfl (gS rfl (gS rfl (gS rfl (gS rfl g0)))))))))))))))) rfl)) ?_
  refine p_step (by exact rfl) (y_nil (et g0 rfl)) ?_
  refine p_step (by exact rfl) (y_idxAC 17 17 Hvaa.underlying318 sz_26 (et g0 rfl) rfl rfl rfl) ?_
  refine p_step (by exact rfl) (y_load1 one_26 (et g0 rfl) (atS (kA.cell rfl))) ?_
  refine p_step (by exact rfl) (y_xor uk64 (et (gS rfl (gS rfl (gS rfl (gS rfl g0)))) rfl) (et g0 rfl) ?_ ?_) ?_
  repeat' first | assumption | refine rotl_lt64 ?_ (by decide) | refine x64 ?_ ?_ | refine and64 ?_ | exact not64 _
  repeat' first | assumption | refine rotl_lt64 ?_ (by decide) | refine x64 ?_ ?_ | refine and64 ?_ | exact not64 _
  refine p_step (by exact rfl) (y_moveV (et (gS rfl (gS rfl (gS rfl (gS rfl (gS rfl (gS rfl (gS rfl (gS rfl (gS rfl (gS rfl (gS rfl (gS rfl (gS rfl (gS rfl (gS rfl (gS rfl (gS rfl (gS rfl (gS rfl (gS rfl (gS rfl g0))))))))))))))))))))) rfl)) ?_
  refine p_step (by exact rfl) (y_nil (et g0 rfl)) ?_
  refine p_step (by exact rfl) (y_idxAC 22 22 Hvaa.underlying318 sz_26 (et g0 rfl) rfl rfl rfl) ?_
  refine p_step (by exact rfl) (y_load1 one_26 (et g0 rfl) (atS (kA.cell rfl))) ?_
  refine p_step (by exact rfl) (y_xor uk64 (et (gS rfl (gS rfl (gS rfl (gS rfl g0)))) rfl) (et g0 rfl) ?_ ?_) ?_
  repeat' first | assumption | refine rotl_lt64 ?_ (by decide) | refine x64 ?_ ?_ | refine and64 ?_ | exact not64 _
  repeat' first | assumption | refine rotl_lt64 ?_ (by decide) | refine x64 ?_ ?_ | refine and64 ?_ | exact not64 _
  obtain ⟨c2, ec2⟩ : ∃ z, Hid (z = a2 ^^^ a7 ^^^ a12 ^^^ a17 ^^^ a22) := ⟨_, ⟨rfl⟩⟩
  have bc2 : c2 < 18446744073709551616 := by rw [ec2.out]; repeat' first | assumption | refine rotl_lt64 ?_ (by decide) | refine x64 ?_ ?_ | refine and64 ?_ | exact not64 _
  rw [← ec2.out]
  refine p_step (by exact rfl) (y_assignV (et g0 rfl)) ?_
  refine p_nil ?_
  refine hK5 _ _ ?_
  refine fg4 0 2 3 4 (gS rfl (gS rfl (gS rfl (gS rfl (gS rfl (gS rfl (gS rfl (gS rfl (gS rfl (gS rfl (gS rfl (gS rfl (gS rfl (gS rfl (gS rfl (gS rfl (gS rfl (gS rfl (gS rfl (gS rfl (gS rfl (gS rfl (gS rfl (gS rfl (gS rfl (gS rfl (gS rfl g0))))))))))))))))))))))))))) (gS rfl (gS rfl (gS rfl (gS rfl (gS rfl (gS rfl (gS rfl (gS rfl (gS rfl (gS rfl (gS rfl (gS rfl (gS rfl (gS rfl (gS rfl (gS rfl (gS rfl (gS rfl (gS rfl (gS rfl (gS rfl (gS rfl (gS rfl (gS rfl (gS rfl (gS rfl g0)))))))))))))))))))))))))) (gS rfl (gS rfl (gS rfl (gS rfl (gS rfl (gS rfl (gS rfl (gS rfl (gS rfl (gS rfl (gS rfl (gS rfl (gS rfl (gS rfl (gS rfl (gS rfl (gS rfl (gS rfl (gS rfl (gS rfl (gS rfl (gS rfl (gS rfl (gS rfl (gS rfl g0))))))))))))))))))))))))) g0 (fun g => ?_)
  refine c_seq (fun K7 hK7 => ?_)
  refine c_draw Up 25 [(0, true), (1, true), (2, true), (3, true), (4, true), (5, true), (6, true), (7, true), (8, true), (9, true), (10, true), (11, true), (12, true), (13, true), (14, true), (15, true), (16, true), (17, true), (18, true), (19, true), (20, true), (21, true), (22, true), (23, true), (24, true)] (by kernel_rfl) (fun w8 hu => ⟨Up.refl _, ?_⟩)
  replace kA := kA.up hu
  replace U := U.tr hu
  have SU := Up.refl w8
  refine p_step (by exact rfl) (y_moveV (et (gS rfl (gS rfl (gS rfl g0))) rfl)) ?_
  refine p_step (by exact rfl) (y_nil (et g0 rfl)) ?_
  refine p_step (by exact rfl) (y_idxAC 3 3 Hvaa.underlying318 sz_26 (et g0 rfl) rfl rfl rfl) ?_
  refine p_step (by exact rfl) (y_load1 one_26 (et g0 rfl) (atS (kA.cell rfl))) ?_
  refine p_step (by exact rfl) (y_moveV (et (gS rfl (gS rfl (gS rfl (gS rfl (gS rfl (gS rfl (gS rfl g0))))))) rfl)) ?_
  refine p_step (by exact rfl) (y_nil (et g0 rfl)) ?_
  refine p_step (by exact rfl) (y_idxAC 8 8 Hvaa.underlying318 sz_26 (et g0 rfl) rfl rfl rfl) ?_
  refine p_step (by exact rfl) (y_load1 one_26 (et g0 rfl) (atS (kA.cell rfl))) ?_
  refine p_step (by exact rfl) (y_xor uk64 (et (gS rfl (gS rfl (gS rfl (gS rfl g0)))) rfl) (et g0 rfl) ?_ ?_) ?_
  repeat' first | assumption | refine rotl_lt64 ?_ (by decide) | refine x64 ?_ ?_ | refine and64 ?_ | exact not64 _
  repeat' first | assumption | refine rotl_lt64 ?_ (by decide) | refine x64 ?_ ?_ | refine and64 ?_ | exact not64 _
  refine p_step (by exact rfl) (y_moveV (et (gS rfl (gS rfl (gS rfl (gS rfl (gS rfl (gS rfl (gS rfl (gS rfl (gS rfl (gS rfl (gS rfl (gS rfl g0)))))))))))) rfl)) ?_
  refine p_step (by exact rfl) (y_nil (et g0 rfl)) ?_
  refine p_step (by exact rfl) (y_idxAC 13 13 Hvaa.underlying318 sz_26 (et g0 rfl) rfl rfl rfl) ?_
  refine p_step (by exact rfl) (y_load1 one_26 (et g0 rfl) (atS (kA.cell rfl))) ?_
  refine p_step (by exact rfl) (y_xor uk64 (et (gS rfl (gS rfl (gS rfl (gS rfl g0)))) rfl) (et g0 rfl) ?_ ?_) ?_
  repeat' first | assumption | refine rotl_lt64 ?_ (by decide) | refine x64 ?_ ?_ | refine and64 ?_ | exact not64 _
  repeat' first | assumption | refine rotl_lt64 ?_ (by decide) | refine x64 ?_ ?_ | refine and64 ?_ | exact not64 _
  refine p_step (by exact rfl) (y_moveV (et (gS rfl (gS rfl (gS rfl (gS rfl (gS rfl (gS rfl (gS rfl (gS rfl (gS rfl (gS rfl (gS rfl (gS rfl (gS rfl (gS rfl (gS rfl (gS rfl (gS rfl g0))))))))))))))))) rfl)) ?_
  refine p_step (by exact rfl) (y_nil (et g0 rfl)) ?_
  refine p_step (by exact rfl) (y_idxAC 18 18 Hvaa.underlying318 sz_26 (et g0 rfl) rfl rfl rfl) ?_
  refine p_step (by exact rfl) (y_load1 one_26 (et g0 rfl) (atS (kA.cell rfl))) ?_
  refine p_step (by exact rfl) (y_xor uk64 (et (gS rfl (gS rfl (gS rfl (gS rfl g0)))) rfl) (et g0 rfl) ?_ ?_) ?_
  repeat' first | assumption | refine rotl_lt64 ?_ (by decide) | refine x64 ?_ ?_ | refine and64 ?_ | exact not64 _
  repeat' first | assumption | refine rotl_lt64 ?_ (by decide) | refine x64 ?_ ?_ | refine and64 ?_ | exact not64 _
  refine p_step (by exact rfl) (y_moveV (et (gS rfl (gS rfl (gS rfl (gS rfl (gS rfl (gS rfl (gS rfl (gS rfl (gS rfl (gS rfl (gS rfl (gS rfl (gS rfl (gS rfl (gS rfl (gS rfl (gS rfl (gS rfl (gS rfl (gS rfl (gS rfl (gS rfl g0)))))))))))))))))))))) rfl)) ?_
  refine p_step (by exact rfl) (y_nil (et g0 rfl)) ?_
  refine p_step (by exact rfl) (y_idxAC 23 23 Hvaa.underlying318 sz_26 (et g0 rfl) rfl rfl rfl) ?_
  refine p_step (by exact rfl) (y_load1 one_26 (et g0 rfl) (atS (kA.cell rfl))) ?_
  refine p_step (by exact rfl) (y_xor uk64 (et (gS rfl (gS rfl (gS rfl (gS rfl g0)))) rfl) (et g0 rfl) ?_ ?_) ?_
  repeat' first | assumption | refine rotl_lt64 ?_ (by decide) | refine x64 ?_ ?_ | refine and64 ?_ | exact not64 _
  repeat' first | assumption | refine rotl_lt64 ?_ (by decide) | refine x64 ?_ ?_ | refine and64 ?_ | exact not64 _
  obtain ⟨c3, ec3⟩ : ∃ z, Hid (z = a3 ^^^ a8 ^^^ a13 ^^^ a18 ^^^ a23) := ⟨_, ⟨rfl⟩⟩
  have bc3 : c3 < 18446744073709551616 := by rw [ec3.out]; repeat' first | assumption | refine rotl_lt64 ?_ (by decide) | refine x64 ?_ ?_ | refine and64 ?_ | exact not64 _
  rw [← ec3.out]
  refine p_step (by exact rfl) (y_assignV (et g0 rfl)) ?_
  refine p_nil ?_
  refine hK7 _ _ ?_
  refine fg5 0 2 3 4 5 (gS rfl (gS rfl (gS rfl (gS rfl (gS rfl (gS rfl (gS rfl (gS rfl (gS rfl (gS rfl (gS rfl (gS rfl (gS rfl (gS rfl (gS rfl (gS rfl (gS rfl (gS rfl (gS rfl (gS rfl (gS rfl (gS rfl (gS rfl (gS rfl (gS rfl (gS rfl (gS rfl (gS rfl g0)))))))))))))))))))))))))))) (gS rfl (gS rfl (gS rfl (gS rfl (gS rfl (gS rfl (gS rfl (gS rfl (gS rfl (gS rfl (gS rfl (gS rfl (gS rfl (gS rfl (gS rfl (gS rfl (gS rfl (gS rfl (gS rfl (gS rfl (gS rfl (gS rfl (gS rfl (gS rfl (gS rfl (gS rfl (gS rfl g0))))))))))))))))))))))))))) (gS rfl (gS rfl (gS rfl (gS rfl (gS rfl (gS rfl (gS rfl (gS rfl (gS rfl (gS rfl (gS rfl (gS rfl (gS rfl (gS rfl (gS rfl (gS rfl (gS rfl (gS rfl (gS rfl (gS rfl (gS rfl (gS rfl (gS rfl (gS rfl (gS rfl (gS rfl g0)))))))))))))))))))))))))) (gS rfl (gS rfl (gS rfl (gS rfl (gS rfl (gS rfl (gS rfl (gS rfl (gS rfl (gS rfl (gS rfl (gS rfl (gS rfl (gS rfl (gS rfl (gS rfl (gS rfl (gS rfl (gS rfl (gS rfl (gS rfl (gS rfl (gS rfl (gS rfl (gS rfl g0))))))))))))))))))))))))) g0 (fun g => ?_)
  refine c_seq (fun K9 hK9 => ?_)
  refine c_draw Up 25 [(0, true), (1, true), (2, true), (3, true), (4, true), (5, true), (6, true), (7, true), (8, true), (9, true), (10, true), (11, true), (12, true), (13, true), (14, true), (15, true), (16, true), (17, true), (18, true), (19, true), (20, true), (21, true), (22, true), (23, true), (24, true)] (by kernel_rfl) (fun w10 hu => ⟨Up.refl _, ?_⟩)
  replace kA := kA.up hu
  replace U := U.tr hu
  have SU := Up.refl w10
  refine p_step (by exact rfl) (y_moveV (et (gS rfl (gS rfl (gS rfl (gS rfl g0)))) rfl)) ?_
  refine p_step (by exact rfl) (y_nil (et g0 rfl)) ?_
  refine p_step (by exact rfl) (y_idxAC 4 4 Hvaa.underlying318 sz_26 (et g0 rfl) rfl rfl rfl) ?_
  refine p_step (by exact rfl) (y_load1 one_26 (et g0 rfl) (atS (kA.cell rfl))) ?_
  refine p_step (by exact rfl) (y_moveV (et (gS rfl (gS rfl (gS rfl (gS rfl (gS rfl (gS rfl (gS rfl (gS rfl g0)))))))) rfl)) ?_
  refine p_step (by exact rfl) (y_nil (et g0 rfl)) ?_
  refine p_step (by exact rfl) (y_idxAC 9 9 Hvaa.underlying318 sz_26 (et g0 rfl) rfl rfl rfl) ?_
  refine p_step (by exact rfl) (y_load1 one_26 (et g0 rfl) (atS (kA.cell rfl))) ?_
  refine p_step (by exact rfl) (y_xor uk64 (et (gS rfl (gS rfl (gS rfl (gS rfl g0)))) rfl) (et g0 rfl) ?_ ?_) ?_
  repeat' first | assumption | refine rotl_lt64 ?_ (by decide) | refine x64 ?_ ?_ | refine and64 ?_ | exact not64 _
  repeat' first | assumption | refine rotl_lt64 ?_ (by decide) | refine x64 ?_ ?_ | refine and64 ?_ | exact not64 _
  refine p_step (by exact rfl) (y_moveV (et (gS rfl (gS rfl (gS rfl (gS rfl (gS rfl (gS rfl (gS rfl (gS rfl (gS rfl (gS rfl (gS rfl (gS rfl (gS rfl g0))))))))))))) rfl)) ?_
  refine p_step (by exact rfl) (y_nil (et g0 rfl)) ?_
  refine p_step (by exact rfl) (y_idxAC 14 14 Hvaa.underlying318 sz_26 (et g0 rfl) rfl rfl rfl) ?_
  refine p_step (by exact rfl) (y_load1 one_26 (et g0 rfl) (atS (kA.cell rfl))) ?_
  refine p_step (by exact rfl) (y_xor uk64 (et (gS rfl (gS rfl (gS rfl (gS rfl g0)))) rfl) (et g0 rfl) ?_ ?_) ?_
  repeat' first | assumption | refine rotl_lt64 ?_ (by decide) | refine x64 ?_ ?_ | refine and64 ?_ | exact not64 _
  repeat' first | assumption | refine rotl_lt64 ?_ (by decide) | refine x64 ?_ ?_ | refine and64 ?_ | exact not64 _
  refine p_step (by exact rfl) (y_moveV (et (gS rfl (gS rfl (gS rfl (gS rfl (gS rfl (gS rfl (gS rfl (gS rfl (gS rfl (gS rfl (gS rfl (gS rfl (gS rfl (gS rfl (gS rfl (gS rfl (gS rfl (gS rfl g0)))))))))))))))))) rfl)) ?_
  refine p_step (by exact rfl) (y_nil (et g0 rfl)) ?_
  refine p_step (by exact rfl) (y_idxAC 19 19 Hvaa.underlying318 sz_26 (et g0 rfl) rfl rfl rfl) ?_
  refine p_step (by exact rfl) (y_load1 one_26 (et g0 rfl) (atS (kA.cell rfl))) ?_
  refine p_step (by exact rfl) (y_xor uk64 (et (gS rfl (gS rfl (gS rfl (gS rfl g0)))) rfl) (et g0 rfl) ?_ ?_) ?_
  repeat' first | assumption | refine rotl_lt64 ?_ (by decide) | refine x64 ?_ ?_ | refine and64 ?_ | exact not64 _
  repeat' first | assumption | refine rotl_lt64 ?_ (by decide) | refine x64 ?_ ?_ | refine and64 ?_ | exact not64 _
  refine p_step (by exact rfl) (y_moveV (et (gS rfl (gS rfl (gS rfl (gS rfl (gS rfl (gS rfl (gS rfl (gS rfl (gS rfl (gS rfl (gS rfl (gS rfl (gS rfl (gS rfl (gS rfl (gS rfl (gS rfl (gS rfl (gS rfl (gS rfl (gS rfl (gS rfl (gS rfl g0))))))))))))))))))))))) rfl)) ?_
  refine p_step (by exact rfl) (y_nil (et g0 rfl)) ?_
  refine p_step (by exact rfl) (y_idxAC 24 24 Hvaa.underlying318 sz_26 (et g0 rfl) rfl rfl rfl) ?_
  refine p_step (by exact rfl) (y_load1 one_26 (et g0 rfl) (atS (kA.cell rfl))) ?_
  refine p_step (by exact rfl) (y_xor uk64 (et (gS rfl (gS rfl (gS rfl (gS rfl g0)))) rfl) (et g0 rfl) ?_ ?_) ?_
  repeat' first | assumption | refine rotl_lt64 ?_ (by decide) | refine x64 ?_ ?_ | refine and64 ?_ | exact not64 _
  repeat' first | assumption | refine rotl_lt64 ?_ (by decide) | refine x64 ?_ ?_ | refine and64 ?_ | exact not64 _
  obtain ⟨c4, ec4⟩ : ∃ z, Hid (z = a4 ^^^ a9 ^^^ a14 ^^^ a19 ^^^ a24) := ⟨_, ⟨rfl⟩⟩
  have bc4 : c4 < 18446744073709551616 := by rw [ec4.out]; repeat' first | assumption | refine rotl_lt64 ?_ (by decide) | refine x64 ?_ ?_ | refine and64 ?_ | exact not64 _
  rw [← ec4.out]
  refine p_step (by exact rfl) (y_assignV (et g0 rfl)) ?_
  refine p_nil ?_
  refine hK9 _ _ ?_
  refine fg6 0 2 3 4 5 6 (gS rfl (gS rfl (gS rfl (gS rfl (gS rfl (gS rfl (gS rfl (gS rfl (gS rfl (gS rfl (gS rfl (gS rfl (gS rfl (gS rfl (gS rfl (gS rfl (gS rfl (gS rfl (gS rfl (gS rfl (gS rfl (gS rfl (gS rfl (gS rfl (gS rfl (gS rfl (gS rfl (gS rfl (gS rfl g0))))))))))))))))))))))))))))) (gS rfl (gS rfl (gS rfl (gS rfl (gS rfl (gS rfl (gS rfl (gS rfl (gS rfl (gS rfl (gS rfl (gS rfl (gS rfl (gS rfl (gS rfl (gS rfl (gS rfl (gS rfl (gS rfl (gS rfl (gS rfl (gS rfl (gS rfl (gS rfl (gS rfl (gS rfl (gS rfl (gS rfl g0)))))))))))))))))))))))))))) (gS rfl (gS rfl (gS rfl (gS rfl (gS rfl (gS rfl (gS rfl (gS rfl (gS rfl (gS rfl (gS rfl (gS rfl (gS rfl (gS rfl (gS rfl (gS rfl (gS rfl (gS rfl (gS rfl (gS rfl (gS rfl (gS rfl (gS rfl (gS rfl (gS rfl (gS rfl (gS rfl g0))))))))))))))))))))))))))) (gS rfl (gS rfl (gS rfl (gS rfl (gS rfl (gS rfl (gS rfl (gS rfl (gS rfl (gS rfl (gS rfl (gS rfl (gS rfl (gS rfl (gS rfl (gS rfl (gS rfl (gS rfl (gS rfl (gS rfl (gS rfl (gS rfl (gS rfl (gS rfl (gS rfl (gS rfl g0)))))))))))))))))))))))))) (gS rfl (gS rfl (gS rfl (gS rfl (gS rfl (gS rfl (gS rfl (gS rfl (gS rfl (gS rfl (gS rfl (gS rfl (gS rfl (gS rfl (gS rfl (gS rfl (gS rfl (gS rfl (gS rfl (gS rfl (gS rfl (gS rfl (gS rfl (gS rfl (gS rfl g0))))))))))))))))))))))))) g0 (fun g => ?_)
  refine c_seq (fun K11 hK11 => ?_)
  refine c_region ?_
  refine l_step (y_moveV (et g0 rfl)) ?_
  refine l_step (y_moveV (et (gS rfl (gS rfl (gS rfl (gS rfl g0)))) rfl)) ?_
  refine l_eff (e_callV cal_416 (aC (et g0 rfl) (aC (v := .int .i64 ((1 : Nat) : Int)) rfl aN)) (rot_spec _ _ _ (by repeat' first | assumption | refine rotl_lt64 ?_ (by decide) | refine x64 ?_ ?_ | refine and64 ?_ | exact not64 _) (by decide))) (fun v12 w12 h12 => ?_)
  obtain ⟨rfl, u12⟩ := h12
  replace kA := kA.up u12
  replace U := U.tr u12
  refine l_step (y_xor uk64 (et (gS rfl (gS rfl g0)) rfl) (et g0 rfl) ?_ ?_) ?_
  repeat' first | assumption | refine rotl_lt64 ?_ (by decide) | refine x64 ?_ ?_ | refine and64 ?_ | exact not64 _
  repeat' first | assumption | refine rotl_lt64 ?_ (by decide) | refine x64 ?_ ?_ | refine and64 ?_ | exact not64 _
  obtain ⟨d0, ed0⟩ : ∃ z, Hid (z = c4 ^^^ rotl c1 1) := ⟨_, ⟨rfl⟩⟩
  have bd0 : d0 < 18446744073709551616 := by rw [ed0.out]; repeat' first | assumption | refine rotl_lt64 ?_ (by decide) | refine x64 ?_ ?_ | refine and64 ?_ | exact not64 _
  rw [← ed0.out]
  refine l_step (y_assignV (et g0 rfl)) ?_
  refine l_nil ?_
  refine hK11 _ _ ?_
  refine fg7 0 2 3 4 5 6 7 (gS rfl (gS rfl (gS rfl (gS rfl (gS rfl (gS rfl (gS rfl (gS rfl (gS rfl (gS rfl g0)))))))))) (gS rfl (gS rfl (gS rfl (gS rfl (gS rfl (gS rfl (gS rfl (gS rfl (gS rfl g0))))))))) (gS rfl (gS rfl (gS rfl (gS rfl (gS rfl (gS rfl (gS rfl (gS rfl g0)))))))) (gS rfl (gS rfl (gS rfl (gS rfl (gS rfl (gS rfl (gS rfl g0))))))) (gS rfl (gS rfl (gS rfl (gS rfl (gS rfl (gS rfl g0)))))) (gS rfl (gS rfl (gS rfl (gS rfl (gS rfl g0))))) g0 (fun g => ?_)
  refine c_seq (fun K13 hK13 => ?_)
  refine c_region ?_
  refine l_step (y_moveV (et (gS rfl (gS rfl (gS rfl (gS rfl (gS rfl g0))))) rfl)) ?_
  refine l_step (y_moveV (et (gS rfl (gS rfl (gS rfl (gS rfl g0)))) rfl)) ?_
  refine l_eff (e_callV cal_416 (aC (et g0 rfl) (aC (v := .int .i64 ((1 : Nat) : Int)) rfl aN)) (rot_spec _ _ _ (by repeat' first | assumption | refine rotl_lt64 ?_ (by decide) | refine x64 ?_ ?_ | refine and64 ?_ | exact not64 _) (by decide))) (fun v14 w14 h14 => ?_)
  obtain ⟨rfl, u14⟩ := h14
  replace kA := kA.up u14
  replace U := U.tr u14
  refine l_step (y_xor uk64 (et (gS rfl (gS rfl g0)) rfl) (et g0 rfl) ?_ ?_) ?_
  repeat' first | assumption | refine rotl_lt64 ?_ (by decide) | refine x64 ?_ ?_ | refine and64 ?_ | exact not64 _
  repeat' first | assumption | refine rotl_lt64 ?_ (by decide) | refine x64 ?_ ?_ | refine and64 ?_ | exact not64 _
  obtain ⟨d1, ed1⟩ : ∃ z, Hid (z = c0 ^^^ rotl c2 1) := ⟨_, ⟨rfl⟩⟩
  have bd1 : d1 < 18446744073709551616 := by rw [ed1.out]; repeat' first | assumption | refine rotl_lt64 ?_ (by decide) | refine x64 ?_ ?_ | refine and64 ?_ | exact not64 _
  rw [← ed1.out]
  refine l_step (y_assignV (et g0 rfl)) ?_
  refine l_nil ?_
  refine hK13 _ _ ?_
  refine fg8 0 2 3 4 5 6 7 8 (gS rfl (gS rfl (gS rfl (gS rfl (gS rfl (gS rfl (gS rfl (gS rfl (gS rfl (gS rfl (gS rfl g0))))))))))) (gS rfl (gS rfl (gS rfl (gS rfl (gS rfl (gS rfl (gS rfl (gS rfl (gS rfl (gS rfl g0)))))))))) (gS rfl (gS rfl (gS rfl (gS rfl (gS rfl (gS rfl (gS rfl (gS rfl (gS rfl g0))))))))) (gS rfl (gS rfl (gS rfl (gS rfl (gS rfl (gS rfl (gS rfl (gS rfl g0)))))))) (gS rfl (gS rfl (gS rfl (gS rfl (gS rfl (gS rfl (gS rfl g0))))))) (gS rfl (gS rfl (gS rfl (gS rfl (gS rfl (gS rfl g0)))))) (gS rfl (gS rfl (gS rfl (gS rfl (gS rfl g0))))) g0 (fun g => ?_)
  refine c_seq (fun K15 hK15 => ?_)
  refine c_region ?_
  refine l_step (y_moveV (et (gS rfl (gS rfl (gS rfl (gS rfl (gS rfl g0))))) rfl)) ?_
  refine l_step (y_moveV (et (gS rfl (gS rfl (gS rfl (gS rfl g0)))) rfl)) ?_
  refine l_eff (e_callV cal_416 (aC (et g0 rfl) (aC (v := .int .i64 ((1 : Nat) : Int)) rfl aN)) (rot_spec _ _ _ (by repeat' first | assumption | refine rotl_lt64 ?_ (by decide) | refine x64 ?_ ?_ | refine and64 ?_ | exact not64 _) (by decide))) (fun v16 w16 h16 => ?_)
  obtain ⟨rfl, u16⟩ := h16
  replace kA := kA.up u16
  replace U := U.tr u16
  refine l_step (y_xor uk64 (et (gS rfl (gS rfl g0)) rfl) (et g0 rfl) ?_ ?_) ?_
  repeat' first | assumption | refine rotl_lt64 ?_ (by decide) | refine x64 ?_ ?_ | refine and64 ?_ | exact not64 _
  repeat' first | assumption | refine rotl_lt64 ?_ (by decide) | refine x64 ?_ ?_ | refine and64 ?_ | exact not64 _
  obtain ⟨d2, ed2⟩ : ∃ z, Hid (z = c1 ^^^ rotl c3 1) := ⟨_, ⟨rfl⟩⟩
  have bd2 : d2 < 18446744073709551616 := by rw [ed2.out]; repeat' first | assumption | refine rotl_lt64 ?_ (by decide) | refine x64 ?_ ?_ | refine and64 ?_ | exact not64 _
  rw [← ed2.out]
  refine l_step (y_assignV (et g0 rfl)) ?_
  refine l_nil ?_
  refine hK15 _ _ ?_
  refine fg8 0 2 4 5 6 7 8 9 (gS rfl (gS rfl (gS rfl (gS rfl (gS rfl (gS rfl (gS rfl (gS rfl (gS rfl (gS rfl (gS rfl (gS rfl g0)))))))))))) (gS rfl (gS rfl (gS rfl (gS rfl (gS rfl (gS rfl (gS rfl (gS rfl (gS rfl (gS rfl (gS rfl g0))))))))))) (gS rfl (gS rfl (gS rfl (gS rfl (gS rfl (gS rfl (gS rfl (gS rfl (gS rfl g0))))))))) (gS rfl (gS rfl (gS rfl (gS rfl (gS rfl (gS rfl (gS rfl (gS rfl g0)))))))) (gS rfl (gS rfl (gS rfl (gS rfl (gS rfl (gS rfl (gS rfl g0))))))) (gS rfl (gS rfl (gS rfl (gS rfl (gS rfl (gS rfl g0)))))) (gS rfl (gS rfl (gS rfl (gS rfl (gS rfl g0))))) g0 (fun g => ?_)
  refine c_seq (fun K17 hK17 => ?_)
  refine c_region ?_
  refine l_step (y_moveV (et (gS rfl (gS rfl (gS rfl (gS rfl (gS rfl g0))))) rfl)) ?_
  refine l_step (y_moveV (et (gS rfl (gS rfl (gS rfl (gS rfl g0)))) rfl)) ?_
  refine l_eff (e_callV cal_416 (aC (et g0 rfl) (aC (v := .int .i64 ((1 : Nat) : Int)) rfl aN)) (rot_spec _ _ _ (by repeat' first | assumption | refine rotl_lt64 ?_ (by decide) | refine x64 ?_ ?_ | refine and64 ?_ | exact not64 _) (by decide))) (fun v18 w18 h18 => ?_)
  obtain ⟨rfl, u18⟩ := h18
  replace kA := kA.up u18
  replace U := U.tr u18
  refine l_step (y_xor uk64 (et (gS rfl (gS rfl g0)) rfl) (et g0 rfl) ?_ ?_) ?_
  repeat' first | assumption | refine rotl_lt64 ?_ (by decide) | refine x64 ?_ ?_ | refine and64 ?_ | exact not64 _
  repeat' first | assumption | refine rotl_lt64 ?_ (by decide) | refine x64 ?_ ?_ | refine and64 ?_ | exact not64 _
  obtain ⟨d3, ed3⟩ : ∃ z, Hid (z = c2 ^^^ rotl c4 1) := ⟨_, ⟨rfl⟩⟩
  have bd3 : d3 < 18446744073709551616 := by rw [ed3.out]; repeat' first | assumption | refine rotl_lt64 ?_ (by decide) | refine x64 ?_ ?_ | refine and64 ?_ | exact not64 _
  rw [← ed3.out]
  refine l_step (y_assignV (et g0 rfl)) ?_
  refine l_nil ?_
  refine hK17 _ _ ?_
  refine fg7 0 2 5 7 8 9 10 (gS rfl (gS rfl (gS rfl (gS rfl (gS rfl (gS rfl (gS rfl (gS rfl (gS rfl (gS rfl (gS rfl (gS rfl g0)))))))))))) (gS rfl (gS rfl (gS rfl (gS rfl (gS rfl (gS rfl (gS rfl (gS rfl (gS rfl (gS rfl (gS rfl g0))))))))))) (gS rfl (gS rfl (gS rfl (gS rfl (gS rfl (gS rfl (gS rfl (gS rfl (gS rfl g0))))))))) (gS rfl (gS rfl (gS rfl (gS rfl (gS rfl (gS rfl (gS rfl g0))))))) (gS rfl (gS rfl (gS rfl (gS rfl (gS rfl (gS rfl g0)))))) (gS rfl (gS rfl (gS rfl (gS rfl (gS rfl g0))))) g0 (fun g => ?_)
  refine c_seq (fun K19 hK19 => ?_)
  refine c_region ?_
  refine l_step (y_moveV (et (gS rfl (gS rfl (gS rfl (gS rfl g0)))) rfl)) ?_
  refine l_step (y_moveV (et (gS rfl (gS rfl (gS rfl (gS rfl (gS rfl (gS rfl g0)))))) rfl)) ?_
  refine l_eff (e_callV cal_416 (aC (et g0 rfl) (aC (v := .int .i64 ((1 : Nat) : Int)) rfl aN)) (rot_spec _ _ _ (by repeat' first | assumption | refine rotl_lt64 ?_ (by decide) | refine x64 ?_ ?_ | refine and64 ?_ | exact not64 _) (by decide))) (fun v20 w20 h20 => ?_)
  obtain ⟨rfl, u20⟩ := h20
  replace kA := kA.up u20
  replace U := U.tr u20
  refine l_step (y_xor uk64 (et (gS rfl (gS rfl g0)) rfl) (et g0 rfl) ?_ ?_) ?_
  repeat' first | assumption | refine rotl_lt64 ?_ (by decide) | refine x64 ?_ ?_ | refine and64 ?_ | exact not64 _
  repeat' first | assumption | refine rotl_lt64 ?_ (by decide) | refine x64 ?_ ?_ | refine and64 ?_ | exact not64 _
  obtain ⟨d4, ed4⟩ : ∃ z, Hid (z = c3 ^^^ rotl c0 1) := ⟨_, ⟨rfl⟩⟩
  have bd4 : d4 < 18446744073709551616 := by rw [ed4.out]; repeat' first | assumption | refine rotl_lt64 ?_ (by decide) | refine x64 ?_ ?_ | refine and64 ?_ | exact not64 _
  rw [← ed4.out]
  refine l_step (y_assignV (et g0 rfl)) ?_
  refine l_nil ?_
  refine hK19 _ _ ?_
  refine fg6 0 7 8 9 10 11 (gS rfl (gS rfl (gS rfl (gS rfl (gS rfl (gS rfl (gS rfl (gS rfl (gS rfl (gS rfl (gS rfl g0))))))))))) (gS rfl (gS rfl (gS rfl (gS rfl (gS rfl (gS rfl (gS rfl (gS rfl g0)))))))) (gS rfl (gS rfl (gS rfl (gS rfl (gS rfl (gS rfl (gS rfl g0))))))) (gS rfl (gS rfl (gS rfl (gS rfl (gS rfl (gS rfl g0)))))) (gS rfl (gS rfl (gS rfl (gS rfl (gS rfl g0))))) g0 (fun g => ?_)
  refine c_seq (fun K21 hK21 => ?_)
  refine c_region ?_
  refine l_step (y_moveV (et (gS rfl (gS rfl (gS rfl (gS rfl (gS rfl g0))))) rfl)) ?_
  refine l_step (y_nil (et g0 rfl)) ?_
  refine l_step (y_idxAC 0 0 Hvaa.underlying318 sz_26 (et g0 rfl) rfl rfl rfl) ?_
  refine l_step (y_load1 one_26 (et g0 rfl) (at1 (kA.cell rfl))) ?_
  refine l_step (y_moveV (et (gS rfl (gS rfl (gS rfl (gS rfl (gS rfl (gS rfl (gS rfl (gS rfl g0)))))))) rfl)) ?_
  refine l_step (y_xor uk64 (et (gS rfl g0) rfl) (et g0 rfl) ?_ ?_) ?_
  repeat' first | assumption | refine rotl_lt64 ?_ (by decide) | refine x64 ?_ ?_ | refine and64 ?_ | exact not64 _
  repeat' first | assumption | refine rotl_lt64 ?_ (by decide) | refine x64 ?_ ?_ | refine and64 ?_ | exact not64 _
  obtain ⟨s0, es0⟩ : ∃ z, Hid (z = a0 ^^^ d0) := ⟨_, ⟨rfl⟩⟩
  have bs0 : s0 < 18446744073709551616 := by rw [es0.out]; repeat' first | assumption | refine rotl_lt64 ?_ (by decide) | refine x64 ?_ ?_ | refine and64 ?_ | exact not64 _
  rw [← es0.out]
  refine l_step (y_assignV (et g0 rfl)) ?_
  refine l_nil ?_
  refine hK21 _ _ ?_
  refine fg7 0 7 8 9 10 11 12 (gS rfl (gS rfl (gS rfl (gS rfl (gS rfl (gS rfl (gS rfl (gS rfl (gS rfl (gS rfl (gS rfl (gS rfl g0)))))))))))) (gS rfl (gS rfl (gS rfl (gS rfl (gS rfl (gS rfl (gS rfl (gS rfl (gS rfl (gS rfl (gS rfl g0))))))))))) (gS rfl (gS rfl (gS rfl (gS rfl (gS rfl (gS rfl (gS rfl (gS rfl (gS rfl (gS rfl g0)))))))))) (gS rfl (gS rfl (gS rfl (gS rfl (gS rfl (gS rfl (gS rfl (gS rfl (gS rfl g0))))))))) (gS rfl (gS rfl (gS rfl (gS rfl (gS rfl (gS rfl (gS rfl (gS rfl g0)))))))) (gS rfl (gS rfl (gS rfl (gS rfl (gS rfl (gS rfl (gS rfl g0))))))) g0 (fun g => ?_)
  refine c_seq (fun K22 hK22 => ?_)
  refine c_region ?_
  refine l_step (y_moveV (et (gS rfl (gS rfl (gS rfl (gS rfl (gS rfl (gS rfl g0)))))) rfl)) ?_
  refine l_step (y_nil (et g0 rfl)) ?_
  refine l_step (y_idxAC 6 6 Hvaa.underlying318 sz_26 (et g0 rfl) rfl rfl rfl) ?_
  refine l_step (y_load1 one_26 (et g0 rfl) (at1 (kA.cell rfl))) ?_
  refine l_step (y_moveV (et (gS rfl (gS rfl (gS rfl (gS rfl (gS rfl (gS rfl (gS rfl (gS rfl g0)))))))) rfl)) ?_
  refine l_step (y_xor uk64 (et (gS rfl g0) rfl) (et g0 rfl) ?_ ?_) ?_
  repeat' first | assumption | refine rotl_lt64 ?_ (by decide) | refine x64 ?_ ?_ | refine and64 ?_ | exact not64 _
  repeat' first | assumption | refine rotl_lt64 ?_ (by decide) | refine x64 ?_ ?_ | refine and64 ?_ | exact not64 _
  refine l_eff (e_callV cal_416 (aC (et g0 rfl) (aC (v := .int .i64 ((44 : Nat) : Int)) rfl aN)) (rot_spec _ _ _ (by repeat' first | assumption | refine rotl_lt64 ?_ (by decide) | refine x64 ?_ ?_ | refine and64 ?_ | exact not64 _) (by decide))) (fun v23 w23 h23 => ?_)
  obtain ⟨rfl, u23⟩ := h23
  replace kA := kA.up u23
  replace U := U.tr u23
  obtain ⟨s1, es1⟩ : ∃ z, Hid (z = rotl (a6 ^^^ d1) 44) := ⟨_, ⟨rfl⟩⟩
  have bs1 : s1 < 18446744073709551616 := by rw [es1.out]; repeat' first | assumption | refine rotl_lt64 ?_ (by decide) | refine x64 ?_ ?_ | refine and64 ?_ | exact not64 _
  rw [← es1.out]
  refine l_step (y_assignV (et g0 rfl)) ?_
  refine l_nil ?_
  refine hK22 _ _ ?_
  refine fg8 0 7 8 9 10 11 12 13 (gS rfl (gS rfl (gS rfl (gS rfl (gS rfl (gS rfl (gS rfl (gS rfl (gS rfl (gS rfl (gS rfl (gS rfl (gS rfl (gS rfl g0)))))))))))))) (gS rfl (gS rfl (gS rfl (gS rfl (gS rfl (gS rfl (gS rfl (gS rfl (gS rfl (gS rfl (gS rfl (gS rfl (gS rfl g0))))))))))))) (gS rfl (gS rfl (gS rfl (gS rfl (gS rfl (gS rfl (gS rfl (gS rfl (gS rfl (gS rfl (gS rfl (gS rfl g0)))))))))))) (gS rfl (gS rfl (gS rfl (gS rfl (gS rfl (gS rfl (gS rfl (gS rfl (gS rfl (gS rfl (gS rfl g0))))))))))) (gS rfl (gS rfl (gS rfl (gS rfl (gS rfl (gS rfl (gS rfl (gS rfl (gS rfl (gS rfl g0)))))))))) (gS rfl (gS rfl (gS rfl (gS rfl (gS rfl (gS rfl (gS rfl (gS rfl (gS rfl g0))))))))) (gS rfl (gS rfl (gS rfl (gS rfl (gS rfl (gS rfl (gS rfl (gS rfl g0)))))))) g0 (fun g => ?_)
  refine c_seq (fun K24 hK24 => ?_)
  refine c_region ?_
  refine l_step (y_moveV (et (gS rfl (gS rfl (gS rfl (gS rfl (gS rfl (gS rfl (gS rfl g0))))))) rfl)) ?_
  refine l_step (y_nil (et g0 rfl)) ?_
  refine l_step (y_idxAC 12 12 Hvaa.underlying318 sz_26 (et g0 rfl) rfl rfl rfl) ?_
  refine l_step (y_load1 one_26 (et g0 rfl) (at1 (kA.cell rfl))) ?_
  refine l_step (y_moveV (et (gS rfl (gS rfl (gS rfl (gS rfl (gS rfl (gS rfl (gS rfl (gS rfl g0)))))))) rfl)) ?_
  refine l_step (y_xor uk64 (et (gS rfl g0) rfl) (et g0 rfl) ?_ ?_) ?_
  repeat' first | assumption | refine rotl_lt64 ?_ (by decide) | refine x64 ?_ ?_ | refine and64 ?_ | exact not64 _
  repeat' first | assumption | refine rotl_lt64 ?_ (by decide) | refine x64 ?_ ?_ | refine and64 ?_ | exact not64 _
  refine l_eff (e_callV cal_416 (aC (et g0 rfl) (aC (v := .int .i64 ((43 : Nat) : Int)) rfl aN)) (rot_spec _ _ _ (by repeat' first | assumption | refine rotl_lt64 ?_ (by decide) | refine x64 ?_ ?_ | refine and64 ?_ | exact not64 _) (by decide))) (fun v25 w25 h25 => ?_)
  obtain ⟨rfl, u25⟩ := h25
  replace kA := kA.up u25
  replace U := U.tr u25
  obtain ⟨s2, es2⟩ : ∃ z, Hid (z = rotl (a12 ^^^ d2) 43) := ⟨_, ⟨rfl⟩⟩
  have bs2 : s2 < 18446744073709551616 := by rw [es2.out]; repeat' first | assumption | refine rotl_lt64 ?_ (by decide) | refine x64 ?_ ?_ | refine and64 ?_ | exact not64 _
  rw [← es2.out]
  refine l_step (y_assignV (et g0 rfl)) ?_
  refine l_nil ?_
  refine hK24 _ _ ?_
  refine fg9 0 7 8 9 10 11 12 13 14 (gS rfl (gS rfl (gS rfl (gS rfl (gS rfl (gS rfl (gS rfl (gS rfl (gS rfl (gS rfl (gS rfl (gS rfl (gS rfl (gS rfl (gS rfl g0))))))))))))))) (gS rfl (gS rfl (gS rfl (gS rfl (gS rfl (gS rfl (gS rfl (gS rfl (gS rfl (gS rfl (gS rfl (gS rfl (gS rfl (gS rfl g0)))))))))))))) (gS rfl (gS rfl (gS rfl (gS rfl (gS rfl (gS rfl (gS rfl (gS rfl (gS rfl (gS rfl (gS rfl (gS rfl (gS rfl g0))))))))))))) (gS rfl (gS rfl (gS rfl (gS rfl (gS rfl (gS rfl (gS rfl (gS rfl (gS rfl (gS rfl (gS rfl (gS rfl g0)))))))))))) (gS rfl (gS rfl (gS rfl (gS rfl (gS rfl (gS rfl (gS rfl (gS rfl (gS rfl (gS rfl (gS rfl g0))))))))))) (gS rfl (gS rfl (gS rfl (gS rfl (gS rfl (gS rfl (gS rfl (gS rfl (gS rfl (gS rfl g0)))))))))) (gS rfl (gS rfl (gS rfl (gS rfl (gS rfl (gS rfl (gS rfl (gS rfl (gS rfl g0))))))))) (gS rfl (gS rfl (gS rfl (gS rfl (gS rfl (gS rfl (gS rfl (gS rfl g0)))))))) g0 (fun g => ?_)
  refine c_seq (fun K26 hK26 => ?_)
  refine c_region ?_
  refine l_step (y_moveV (et (gS rfl (gS rfl (gS rfl (gS rfl (gS rfl (gS rfl (gS rfl (gS rfl g0)))))))) rfl)) ?_
  refine l_step (y_nil (et g0 rfl)) ?_
  refine l_step (y_idxAC 18 18 Hvaa.underlying318 sz_26 (et g0 rfl) rfl rfl rfl) ?_
  refine l_step (y_load1 one_26 (et g0 rfl) (at1 (kA.cell rfl))) ?_
  refine l_step (y_moveV (et (gS rfl (gS rfl (gS rfl (gS rfl (gS rfl (gS rfl (gS rfl (gS rfl g0)))))))) rfl)) ?_
  refine l_step (y_xor uk64 (et (gS rfl g0) rfl) (et g0 rfl) ?_ ?_) ?_
  repeat' first | assumption | refine rotl_lt64 ?_ (by decide) | refine x64 ?_ ?_ | refine and64 ?_ | exact not64 _
  repeat' first | assumption | refine rotl_lt64 ?_ (by decide) | refine x64 ?_ ?_ | refine and64 ?_ | exact not64 _
  refine l_eff (e_callV cal_416 (aC (et g0 rfl) (aC (v := .int .i64 ((21 : Nat) : Int)) rfl aN)) (rot_spec _ _ _ (by repeat' first | assumption | refine rotl_lt64 ?_ (by decide) | refine x64 ?_ ?_ | refine and64 ?_ | exact not64 _) (by decide))) (fun v27 w27 h27 => ?_)
  obtain ⟨rfl, u27⟩ := h27
  replace kA := kA.up u27
  replace U := U.tr u27
  obtain ⟨s3, es3⟩ : ∃ z, Hid (z = rotl (a18 ^^^ d3) 21) := ⟨_, ⟨rfl⟩⟩
  have bs3 : s3 < 18446744073709551616 := by rw [es3.out]; repeat' first | assumption | refine rotl_lt64 ?_ (by decide) | refine x64 ?_ ?_ | refine and64 ?_ | exact not64 _
  rw [← es3.out]
  refine l_step (y_assignV (et g0 rfl)) ?_
  refine l_nil ?_
  refine hK26 _ _ ?_
  refine fg10 0 7 8 9 10 11 12 13 14 15 (gS rfl (gS rfl (gS rfl (gS rfl (gS rfl (gS rfl (gS rfl (gS rfl (gS rfl (gS rfl (gS rfl (gS rfl (gS rfl (gS rfl (gS rfl (gS rfl g0)))))))))))))))) (gS rfl (gS rfl (gS rfl (gS rfl (gS rfl (gS rfl (gS rfl (gS rfl (gS rfl (gS rfl (gS rfl (gS rfl (gS rfl (gS rfl (gS rfl g0))))))))))))))) (gS rfl (gS rfl (gS rfl (gS rfl (gS rfl (gS rfl (gS rfl (gS rfl (gS rfl (gS rfl (gS rfl (gS rfl (gS rfl (gS rfl g0)))))))))))))) (gS rfl (gS rfl (gS rfl (gS rfl (gS rfl (gS rfl (gS rfl (gS rfl (gS rfl (gS rfl (gS rfl (gS rfl (gS rfl g0))))))))))))) (gS rfl (gS rfl (gS rfl (gS rfl (gS rfl (gS rfl (gS rfl (gS rfl (gS rfl (gS rfl (gS rfl (gS rfl g0)))))))))))) (gS rfl (gS rfl (gS rfl (gS rfl (gS rfl (gS rfl (gS rfl (gS rfl (gS rfl (gS rfl (gS rfl g0))))))))))) (gS rfl (gS rfl (gS rfl (gS rfl (gS rfl (gS rfl (gS rfl (gS rfl (gS rfl (gS rfl g0)))))))))) (gS rfl (gS rfl (gS rfl (gS rfl (gS rfl (gS rfl (gS rfl (gS rfl (gS rfl g0))))))))) (gS rfl (gS rfl (gS rfl (gS rfl (gS rfl (gS rfl (gS rfl (gS rfl g0)))))))) g0 (fun g => ?_)
  refine c_seq (fun K28 hK28 => ?_)
  refine c_region ?_
  refine l_step (y_moveV (et (gS rfl (gS rfl (gS rfl (gS rfl (gS rfl (gS rfl (gS rfl (gS rfl (gS rfl g0))))))))) rfl)) ?_
  refine l_step (y_nil (et g0 rfl)) ?_
  refine l_step (y_idxAC 24 24 Hvaa.underlying318 sz_26 (et g0 rfl) rfl rfl rfl) ?_
  refine l_step (y_load1 one_26 (et g0 rfl) (at1 (kA.cell rfl))) ?_
  refine l_step (y_moveV (et (gS rfl (gS rfl (gS rfl (gS rfl (gS rfl (gS rfl (gS rfl (gS rfl g0)))))))) rfl)) ?_
  refine l_step (y_xor uk64 (et (gS rfl g0) rfl) (et g0 rfl) ?_ ?_) ?_
  repeat' first | assumption | refine rotl_lt64 ?_ (by decide) | refine x64 ?_ ?_ | refine and64 ?_ | exact not64 _
  repeat' first | assumption | refine rotl_lt64 ?_ (by decide) | refine x64 ?_ ?_ | refine and64 ?_ | exact not64 _
  refine l_eff (e_callV cal_416 (aC (et g0 rfl) (aC (v := .int .i64 ((14 : Nat) : Int)) rfl aN)) (rot_spec _ _ _ (by repeat' first | assumption | refine rotl_lt64 ?_ (by decide) | refine x64 ?_ ?_ | refine and64 ?_ | exact not64 _) (by decide))) (fun v29 w29 h29 => ?_)
  obtain ⟨rfl, u29⟩ := h29
  replace kA := kA.up u29
  replace U := U.tr u29
  obtain ⟨s4, es4⟩ : ∃ z, Hid (z = rotl (a24 ^^^ d4) 14) := ⟨_, ⟨rfl⟩⟩
  have bs4 : s4 < 18446744073709551616 := by rw [es4.out]; repeat' first | assumption | refine rotl_lt64 ?_ (by decide) | refine x64 ?_ ?_ | refine and64 ?_ | exact not64 _
  rw [← es4.out]
  refine l_step (y_assignV (et g0 rfl)) ?_
  refine l_nil ?_
  refine hK28 _ _ ?_
  refine fg11 0 7 8 9 10 11 12 13 14 15 16 (gS rfl (gS rfl (gS rfl (gS rfl (gS rfl (gS rfl (gS rfl (gS rfl (gS rfl (gS rfl (gS rfl (gS rfl (gS rfl (gS rfl (gS rfl (gS rfl (gS rfl g0))))))))))))))))) (gS rfl (gS rfl (gS rfl (gS rfl (gS rfl (gS rfl (gS rfl (gS rfl (gS rfl (gS rfl (gS rfl (gS rfl (gS rfl (gS rfl (gS rfl (gS rfl g0)))))))))))))))) (gS rfl (gS rfl (gS rfl (gS rfl (gS rfl (gS rfl (gS rfl (gS rfl (gS rfl (gS rfl (gS rfl (gS rfl (gS rfl (gS rfl (gS rfl g0))))))))))))))) (gS rfl (gS rfl (gS rfl (gS rfl (gS rfl (gS rfl (gS rfl (gS rfl (gS rfl (gS rfl (gS rfl (gS rfl (gS rfl (gS rfl g0)))))))))))))) (gS rfl (gS rfl (gS rfl (gS rfl (gS rfl (gS rfl (gS rfl (gS rfl (gS rfl (gS rfl (gS rfl (gS rfl (gS rfl g0))))))))))))) (gS rfl (gS rfl (gS rfl (gS rfl (gS rfl (gS rfl (gS rfl (gS rfl (gS rfl (gS rfl (gS rfl (gS rfl g0)))))))))))) (gS rfl (gS rfl (gS rfl (gS rfl (gS rfl (gS rfl (gS rfl (gS rfl (gS rfl (gS rfl (gS rfl g0))))))))))) (gS rfl (gS rfl (gS rfl (gS rfl (gS rfl (gS rfl (gS rfl (gS rfl (gS rfl (gS rfl g0)))))))))) (gS rfl (gS rfl (gS rfl (gS rfl (gS rfl (gS rfl (gS rfl (gS rfl (gS rfl g0))))))))) (gS rfl (gS rfl (gS rfl (gS rfl (gS rfl (gS rfl (gS rfl (gS rfl g0)))))))) g0 (fun g => ?_)
  refine c_seq (fun K30 hK30 => ?_)
  refine c_region ?_
  refine l_step (y_moveV (et (gS rfl (gS rfl (gS rfl (gS rfl (gS rfl (gS rfl (gS rfl (gS rfl (gS rfl (gS rfl g0)))))))))) rfl)) ?_
  refine l_step (y_nil (et g0 rfl)) ?_
  refine l_step (y_idxAC 3 3 Hvaa.underlying318 sz_26 (et g0 rfl) rfl rfl rfl) ?_
  refine l_step (y_load1 one_26 (et g0 rfl) (at1 (kA.cell rfl))) ?_
  refine l_step (y_moveV (et (gS rfl (gS rfl (gS rfl (gS rfl (gS rfl (gS rfl (gS rfl (gS rfl (gS rfl (gS rfl g0)))))))))) rfl)) ?_
  refine l_step (y_xor uk64 (et (gS rfl g0) rfl) (et g0 rfl) ?_ ?_) ?_
  repeat' first | assumption | refine rotl_lt64 ?_ (by decide) | refine x64 ?_ ?_ | refine and64 ?_ | exact not64 _
  repeat' first | assumption | refine rotl_lt64 ?_ (by decide) | refine x64 ?_ ?_ | refine and64 ?_ | exact not64 _
  refine l_eff (e_callV cal_416 (aC (et g0 rfl) (aC (v := .int .i64 ((28 : Nat) : Int)) rfl aN)) (rot_spec _ _ _ (by repeat' first | assumption | refine rotl_lt64 ?_ (by decide) | refine x64 ?_ ?_ | refine and64 ?_ | exact not64 _) (by decide))) (fun v31 w31 h31 => ?_)
  obtain ⟨rfl, u31⟩ := h31
  replace kA := kA.up u31
  replace U := U.tr u31
  obtain ⟨t0, et0⟩ : ∃ z, Hid (z = rotl (a3 ^^^ d3) 28) := ⟨_, ⟨rfl⟩⟩
  have bt0 : t0 < 18446744073709551616 := by rw [et0.out]; repeat' first | assumption | refine rotl_lt64 ?_ (by decide) | refine x64 ?_ ?_ | refine and64 ?_ | exact not64 _
  rw [← et0.out]
  refine l_step (y_assignV (et g0 rfl)) ?_
  refine l_nil ?_
  refine hK30 _ _ ?_
  refine fg12 0 7 8 9 10 11 12 13 14 15 16 17 (gS rfl (gS rfl (gS rfl (gS rfl (gS rfl (gS rfl (gS rfl (gS rfl (gS rfl (gS rfl (gS rfl (gS rfl (gS rfl (gS rfl (gS rfl (gS rfl (gS rfl (gS rfl g0)))))))))))))))))) (gS rfl (gS rfl (gS rfl (gS rfl (gS rfl (gS rfl (gS rfl (gS rfl (gS rfl (gS rfl (gS rfl (gS rfl (gS rfl (gS rfl (gS rfl (gS rfl (gS rfl g0))))))))))))))))) (gS rfl (gS rfl (gS rfl (gS rfl (gS rfl (gS rfl (gS rfl (gS rfl (gS rfl (gS rfl (gS rfl (gS rfl (gS rfl (gS rfl (gS rfl (gS rfl g0)))))))))))))))) (gS rfl (gS rfl (gS rfl (gS rfl (gS rfl (gS rfl (gS rfl (gS rfl (gS rfl (gS rfl (gS rfl (gS rfl (gS rfl (gS rfl (gS rfl g0))))))))))))))) (gS rfl (gS rfl (gS rfl (gS rfl (gS rfl (gS rfl (gS rfl (gS rfl (gS rfl (gS rfl (gS rfl (gS rfl (gS rfl (gS rfl g0)))))))))))))) (gS rfl (gS rfl (gS rfl (gS rfl (gS rfl (gS rfl (gS rfl (gS rfl (gS rfl (gS rfl (gS rfl (gS rfl (gS rfl g0))))))))))))) (gS rfl (gS rfl (gS rfl (gS rfl (gS rfl (gS rfl (gS rfl (gS rfl (gS rfl (gS rfl (gS rfl (gS rfl g0)))))))))))) (gS rfl (gS rfl (gS rfl (gS rfl (gS rfl (gS rfl (gS rfl (gS rfl (gS rfl (gS rfl (gS rfl g0))))))))))) (gS rfl (gS rfl (gS rfl (gS rfl (gS rfl (gS rfl (gS rfl (gS rfl (gS rfl (gS rfl g0)))))))))) (gS rfl (gS rfl (gS rfl (gS rfl (gS rfl (gS rfl (gS rfl (gS rfl (gS rfl g0))))))))) (gS rfl (gS rfl (gS rfl (gS rfl (gS rfl (gS rfl (gS rfl (gS rfl g0)))))))) g0 (fun g => ?_)
  refine c_seq (fun K32 hK32 => ?_)
  refine c_region ?_
  refine l_step (y_moveV (et (gS rfl (gS rfl (gS rfl (gS rfl (gS rfl (gS rfl (gS rfl (gS rfl (gS rfl (gS rfl (gS rfl g0))))))))))) rfl)) ?_
  refine l_step (y_nil (et g0 rfl)) ?_
  refine l_step (y_idxAC 9 9 Hvaa.underlying318 sz_26 (et g0 rfl) rfl rfl rfl) ?_
  refine l_step (y_load1 one_26 (et g0 rfl) (at1 (kA.cell rfl))) ?_
  refine l_step (y_moveV (et (gS rfl (gS rfl (gS rfl (gS rfl (gS rfl (gS rfl (gS rfl (gS rfl (gS rfl (gS rfl g0)))))))))) rfl)) ?_
  refine l_step (y_xor uk64 (et (gS rfl g0) rfl) (et g0 rfl) ?_ ?_) ?_
  repeat' first | assumption | refine rotl_lt64 ?_ (by decide) | refine x64 ?_ ?_ | refine and64 ?_ | exact not64 _
  repeat' first | assumption | refine rotl_lt64 ?_ (by decide) | refine x64 ?_ ?_ | refine and64 ?_ | exact not64 _
  refine l_eff (e_callV cal_416 (aC (et g0 rfl) (aC (v := .int .i64 ((20 : Nat) : Int)) rfl aN)) (rot_spec _ _ _ (by repeat' first | assumption | refine rotl_lt64 ?_ (by decide) | refine x64 ?_ ?_ | refine and64 ?_ | exact not64 _) (by decide))) (fun v33 w33 h33 => ?_)
  obtain ⟨rfl, u33⟩ := h33
  replace kA := kA.up u33
  replace U := U.tr u33
  obtain ⟨t1, et1⟩ : ∃ z, Hid (z = rotl (a9 ^^^ d4) 20) := ⟨_, ⟨rfl⟩⟩
  have bt1 : t1 < 18446744073709551616 := by rw [et1.out]; repeat' first | assumption | refine rotl_lt64 ?_ (by decide) | refine x64 ?_ ?_ | refine and64 ?_ | exact not64 _
  rw [← et1.out]
  refine l_step (y_assignV (et g0 rfl)) ?_
  refine l_nil ?_
  refine hK32 _ _ ?_
  refine fg13 0 7 8 9 10 11 12 13 14 15 16 17 18 (gS rfl (gS rfl (gS rfl (gS rfl (gS rfl (gS rfl (gS rfl (gS rfl (gS rfl (gS rfl (gS rfl (gS rfl (gS rfl (gS rfl (gS rfl (gS rfl (gS rfl (gS rfl (gS rfl g0))))))))))))))))))) (gS rfl (gS rfl (gS rfl (gS rfl (gS rfl (gS rfl (gS rfl (gS rfl (gS rfl (gS rfl (gS rfl (gS rfl (gS rfl (gS rfl (gS rfl (gS rfl (gS rfl (gS rfl g0)))))))))))))))))) (gS rfl (gS rfl (gS rfl (gS rfl (gS rfl (gS rfl (gS rfl (gS rfl (gS rfl (gS rfl (gS rfl (gS rfl (gS rfl (gS rfl (gS rfl (gS rfl (gS rfl g0))))))))))))))))) (gS rfl (gS rfl (gS rfl (gS rfl (gS rfl (gS rfl (gS rfl (gS rfl (gS rfl (gS rfl (gS rfl (gS rfl (gS rfl (gS rfl (gS rfl (gS rfl g0)))))))))))))))) (gS rfl (gS rfl (gS rfl (gS rfl (gS rfl (gS rfl (gS rfl (gS rfl (gS rfl (gS rfl (gS rfl (gS rfl (gS rfl (gS rfl (gS rfl g0))))))))))))))) (gS rfl (gS rfl (gS rfl (gS rfl (gS rfl (gS rfl (gS rfl (gS rfl (gS rfl (gS rfl (gS rfl (gS rfl (gS rfl (gS rfl g0)))))))))))))) (gS rfl (gS rfl (gS rfl (gS rfl (gS rfl (gS rfl (gS rfl (gS rfl (gS rfl (gS rfl (gS rfl (gS rfl (gS rfl g0))))))))))))) (gS rfl (gS rfl (gS rfl (gS rfl (gS rfl (gS rfl (gS rfl (gS rfl (gS rfl (gS rfl (gS rfl (gS rfl g0)))))))))))) (gS rfl (gS rfl (gS rfl (gS rfl (gS rfl (gS rfl (gS rfl (gS rfl (gS rfl (gS rfl (gS rfl g0))))))))))) (gS rfl (gS rfl (gS rfl (gS rfl (gS rfl (gS rfl (gS rfl (gS rfl (gS rfl (gS rfl g0)))))))))) (gS rfl (gS rfl (gS rfl (gS rfl (gS rfl (gS rfl (gS rfl (gS rfl (gS rfl g0))))))))) (gS rfl (gS rfl (gS rfl (gS rfl (gS rfl (gS rfl (gS rfl (gS rfl g0)))))))) g0 (fun g => ?_)
  refine c_seq (fun K34 hK34 => ?_)
  refine c_region ?_
  refine l_step (y_moveV (et (gS rfl (gS rfl (gS rfl (gS rfl (gS rfl (gS rfl (gS rfl (gS rfl (gS rfl (gS rfl (gS rfl (gS rfl g0)))))))))))) rfl)) ?_
  refine l_step (y_nil (et g0 rfl)) ?_
  refine l_step (y_idxAC 10 10 Hvaa.underlying318 sz_26 (et g0 rfl) rfl rfl rfl) ?_
  refine l_step (y_load1 one_26 (et g0 rfl) (at1 (kA.cell rfl))) ?_
  refine l_step (y_moveV (et (gS rfl (gS rfl (gS rfl (gS rfl (gS rfl (gS rfl (gS rfl (gS rfl (gS rfl (gS rfl (gS rfl (gS rfl (gS rfl (gS rfl (gS rfl g0))))))))))))))) rfl)) ?_
  refine l_step (y_xor uk64 (et (gS rfl g0) rfl) (et g0 rfl) ?_ ?_) ?_
  repeat' first | assumption | refine rotl_lt64 ?_ (by decide) | refine x64 ?_ ?_ | refine and64 ?_ | exact not64 _
  repeat' first | assumption | refine rotl_lt64 ?_ (by decide) | refine x64 ?_ ?_ | refine and64 ?_ | exact not64 _
  refine l_eff (e_callV cal_416 (aC (et g0 rfl) (aC (v := .int .i64 ((3 : Nat) : Int)) rfl aN)) (rot_spec _ _ _ (by repeat' first | assumption | refine rotl_lt64 ?_ (by decide) | refine x64 ?_ ?_ | refine and64 ?_ | exact not64 _) (by decide))) (fun v35 w35 h35 => ?_)
  obtain ⟨rfl, u35⟩ := h35
  replace kA := kA.up u35
  replace U := U.tr u35
  obtain ⟨t2, et2⟩ : ∃ z, Hid (z = rotl (a10 ^^^ d0) 3) := ⟨_, ⟨rfl⟩⟩
  have bt2 : t2 < 18446744073709551616 := by rw [et2.out]; repeat' first | assumption | refine rotl_lt64 ?_ (by decide) | refine x64 ?_ ?_ | refine and64 ?_ | exact not64 _
  rw [← et2.out]
  refine l_step (y_assignV (et g0 rfl)) ?_
  refine l_nil ?_
  refine hK34 _ _ ?_
  refine fg14 0 7 8 9 10 11 12 13 14 15 16 17 18 19 (gS rfl (gS rfl (gS rfl (gS rfl (gS rfl (gS rfl (gS rfl (gS rfl (gS rfl (gS rfl (gS rfl (gS rfl (gS rfl (gS rfl (gS rfl (gS rfl (gS rfl (gS rfl (gS rfl (gS rfl g0)))))))))))))))))))) (gS rfl (gS rfl (gS rfl (gS rfl (gS rfl (gS rfl (gS rfl (gS rfl (gS rfl (gS rfl (gS rfl (gS rfl (gS rfl (gS rfl (gS rfl (gS rfl (gS rfl (gS rfl (gS rfl g0))))))))))))))))))) (gS rfl (gS rfl (gS rfl (gS rfl (gS rfl (gS rfl (gS rfl (gS rfl (gS rfl (gS rfl (gS rfl (gS rfl (gS rfl (gS rfl (gS rfl (gS rfl (gS rfl (gS rfl g0)))))))))))))))))) (gS rfl (gS rfl (gS rfl (gS rfl (gS rfl (gS rfl (gS rfl (gS rfl (gS rfl (gS rfl (gS rfl (gS rfl (gS rfl (gS rfl (gS rfl (gS rfl (gS rfl g0))))))))))))))))) (gS rfl (gS rfl (gS rfl (gS rfl (gS rfl (gS rfl (gS rfl (gS rfl (gS rfl (gS rfl (gS rfl (gS rfl (gS rfl (gS rfl (gS rfl (gS rfl g0)))))))))))))))) (gS rfl (gS rfl (gS rfl (gS rfl (gS rfl (gS rfl (gS rfl (gS rfl (gS rfl (gS rfl (gS rfl (gS rfl (gS rfl (gS rfl (gS rfl g0))))))))))))))) (gS rfl (gS rfl (gS rfl (gS rfl (gS rfl (gS rfl (gS rfl (gS rfl (gS rfl (gS rfl (gS rfl (gS rfl (gS rfl (gS rfl g0)))))))))))))) (gS rfl (gS rfl (gS rfl (gS rfl (gS rfl (gS rfl (gS rfl (gS rfl (gS rfl (gS rfl (gS rfl (gS rfl (gS rfl g0))))))))))))) (gS rfl (gS rfl (gS rfl (gS rfl (gS rfl (gS rfl (gS rfl (gS rfl (gS rfl (gS rfl (gS rfl (gS rfl g0)))))))))))) (gS rfl (gS rfl (gS rfl (gS rfl (gS rfl (gS rfl (gS rfl (gS rfl (gS rfl (gS rfl (gS rfl g0))))))))))) (gS rfl (gS rfl (gS rfl (gS rfl (gS rfl (gS rfl (gS rfl (gS rfl (gS rfl (gS rfl g0)))))))))) (gS rfl (gS rfl (gS rfl (gS rfl (gS rfl (gS rfl (gS rfl (gS rfl (gS rfl g0))))))))) (gS rfl (gS rfl (gS rfl (gS rfl (gS rfl (gS rfl (gS rfl (gS rfl g0)))))))) g0 (fun g => ?_)
  refine c_seq (fun K36 hK36 => ?_)
  refine c_region ?_
  refine l_step (y_moveV (et (gS rfl (gS rfl (gS rfl (gS rfl (gS rfl (gS rfl (gS rfl (gS rfl (gS rfl (gS rfl (gS rfl (gS rfl (gS rfl g0))))))))))))) rfl)) ?_
  refine l_step (y_nil (et g0 rfl)) ?_
  refine l_step (y_idxAC 16 16 Hvaa.underlying318 sz_26 (et g0 rfl) rfl rfl rfl) ?_
  refine l_step (y_load1 one_26 (et g0 rfl) (at1 (kA.cell rfl))) ?_
  refine l_step (y_moveV (et (gS rfl (gS rfl (gS rfl (gS rfl (gS rfl (gS rfl (gS rfl (gS rfl (gS rfl (gS rfl (gS rfl (gS rfl (gS rfl (gS rfl (gS rfl g0))))))))))))))) rfl)) ?_
  refine l_step (y_xor uk64 (et (gS rfl g0) rfl) (et g0 rfl) ?_ ?_) ?_
  repeat' first | assumption | refine rotl_lt64 ?_ (by decide) | refine x64 ?_ ?_ | refine and64 ?_ | exact not64 _
  repeat' first | assumption | refine rotl_lt64 ?_ (by decide) | refine x64 ?_ ?_ | refine and64 ?_ | exact not64 _
  refine l_eff (e_callV cal_416 (aC (et g0 rfl) (aC (v := .int .i64 ((45 : Nat) : Int)) rfl aN)) (rot_spec _ _ _ (by repeat' first | assumption | refine rotl_lt64 ?_ (by decide) | refine x64 ?_ ?_ | refine and64 ?_ | exact not64 _) (by decide))) (fun v37 w37 h37 => ?_)
  obtain ⟨rfl, u37⟩ := h37
  replace kA := kA.up u37
  replace U := U.tr u37
  obtain ⟨t3, et3⟩ : ∃ z, Hid (z = rotl (a16 ^^^ d1) 45) := ⟨_, ⟨rfl⟩⟩
  have bt3 : t3 < 18446744073709551616 := by rw [et3.out]; repeat' first | assumption | refine rotl_lt64 ?_ (by decide) | refine x64 ?_ ?_ | refine and64 ?_ | exact not64 _
  rw [← et3.out]
  refine l_step (y_assignV (et g0 rfl)) ?_
  refine l_nil ?_
  refine hK36 _ _ ?_
  refine fg15 0 7 8 9 10 11 12 13 14 15 16 17 18 19 20 (gS rfl (gS rfl (gS rfl (gS rfl (gS rfl (gS rfl (gS rfl (gS rfl (gS rfl (gS rfl (gS rfl (gS rfl (gS rfl (gS rfl (gS rfl (gS rfl (gS rfl (gS rfl (gS rfl (gS rfl (gS rfl g0))))))))))))))))))))) (gS rfl (gS rfl (gS rfl (gS rfl (gS rfl (gS rfl (gS rfl (gS rfl (gS rfl (gS rfl (gS rfl (gS rfl (gS rfl (gS rfl (gS rfl (gS rfl (gS rfl (gS rfl (gS rfl (gS rfl g0)))))))))))))))))))) (gS rfl (gS rfl (gS rfl (gS rfl (gS rfl (gS rfl (gS rfl (gS rfl (gS rfl (gS rfl (gS rfl (gS rfl (gS rfl (gS rfl (gS rfl (gS rfl (gS rfl (gS rfl (gS rfl g0))))))))))))))))))) (gS rfl (gS rfl (gS rfl (gS rfl (gS rfl (gS rfl (gS rfl (gS rfl (gS rfl (gS rfl (gS rfl (gS rfl (gS rfl (gS rfl (gS rfl (gS rfl (gS rfl (gS rfl g0)))))))))))))))))) (gS rfl (gS rfl (gS rfl (gS rfl (gS rfl (gS rfl (gS rfl (gS rfl (gS rfl (gS rfl (gS rfl (gS rfl (gS rfl (gS rfl (gS rfl (gS rfl (gS rfl g0))))))))))))))))) (gS rfl (gS rfl (gS rfl (gS rfl (gS rfl (gS rfl (gS rfl (gS rfl (gS rfl (gS rfl (gS rfl (gS rfl (gS rfl (gS rfl (gS rfl (gS rfl g0)))))))))))))))) (gS rfl (gS rfl (gS rfl (gS rfl (gS rfl (gS rfl (gS rfl (gS rfl (gS rfl (gS rfl (gS rfl (gS rfl (gS rfl (gS rfl (gS rfl g0))))))))))))))) (gS rfl (gS rfl (gS rfl (gS rfl (gS rfl (gS rfl (gS rfl (gS rfl (gS rfl (gS rfl (gS rfl (gS rfl (gS rfl (gS rfl g0)))))))))))))) (gS rfl (gS rfl (gS rfl (gS rfl (gS rfl (gS rfl (gS rfl (gS rfl (gS rfl (gS rfl (gS rfl (gS rfl (gS rfl g0))))))))))))) (gS rfl (gS rfl (gS rfl (gS rfl (gS rfl (gS rfl (gS rfl (gS rfl (gS rfl (gS rfl (gS rfl (gS rfl g0)))))))))))) (gS rfl (gS rfl (gS rfl (gS rfl (gS rfl (gS rfl (gS rfl (gS rfl (gS rfl (gS rfl (gS rfl g0))))))))))) (gS rfl (gS rfl (gS rfl (gS rfl (gS rfl (gS rfl (gS rfl (gS rfl (gS rfl (gS rfl g0)))))))))) (gS rfl (gS rfl (gS rfl (gS rfl (gS rfl (gS rfl (gS rfl (gS rfl (gS rfl g0))))))))) (gS rfl (gS rfl (gS rfl (gS rfl (gS rfl (gS rfl (gS rfl (gS rfl g0)))))))) g0 (fun g => ?_)
  refine c_seq (fun K38 hK38 => ?_)
  refine c_region ?_
  refine l_step (y_moveV (et (gS rfl (gS rfl (gS rfl (gS rfl (gS rfl (gS rfl (gS rfl (gS rfl (gS rfl (gS rfl (gS rfl (gS rfl (gS rfl (gS rfl g0)))))))))))))) rfl)) ?_
  refine l_step (y_nil (et g0 rfl)) ?_
  refine l_step (y_idxAC 22 22 Hvaa.underlying318 sz_26 (et g0 rfl) rfl rfl rfl) ?_
  refine l_step (y_load1 one_26 (et g0 rfl) (at1 (kA.cell rfl))) ?_
  refine l_step (y_moveV (et (gS rfl (gS rfl (gS rfl (gS rfl (gS rfl (gS rfl (gS rfl (gS rfl (gS rfl (gS rfl (gS rfl (gS rfl (gS rfl (gS rfl (gS rfl g0))))))))))))))) rfl)) ?_
  refine l_step (y_xor uk64 (et (gS rfl g0) rfl) (et g0 rfl) ?_ ?_) ?_
  repeat' first | assumption | refine rotl_lt64 ?_ (by decide) | refine x64 ?_ ?_ | refine and64 ?_ | exact not64 _
  repeat' first | assumption | refine rotl_lt64 ?_ (by decide) | refine x64 ?_ ?_ | refine and64 ?_ | exact not64 _
  refine l_eff (e_callV cal_416 (aC (et g0 rfl) (aC (v := .int .i64 ((61 : Nat) : Int)) rfl aN)) (rot_spec _ _ _ (by repeat' first | assumption | refine rotl_lt64 ?_ (by decide) | refine x64 ?_ ?_ | refine and64 ?_ | exact not64 _) (by decide))) (fun v39 w39 h39 => ?_)
  obtain ⟨rfl, u39⟩ := h39
  replace kA := kA.up u39
  replace U := U.tr u39
  obtain ⟨t4, et4⟩ : ∃ z, Hid (z = rotl (a22 ^^^ d2) 61) := ⟨_, ⟨rfl⟩⟩
  have bt4 : t4 < 18446744073709551616 := by rw [et4.out]; repeat' first | assumption | refine rotl_lt64 ?_ (by decide) | refine x64 ?_ ?_ | refine and64 ?_ | exact not64 _
  rw [← et4.out]
  refine l_step (y_assignV (et g0 rfl)) ?_
  refine l_nil ?_
  refine hK38 _ _ ?_
  refine fg16 0 7 8 9 10 11 12 13 14 15 16 17 18 19 20 21 (gS rfl (gS rfl (gS rfl (gS rfl (gS rfl (gS rfl (gS rfl (gS rfl (gS rfl (gS rfl (gS rfl (gS rfl (gS rfl (gS rfl (gS rfl (gS rfl (gS rfl (gS rfl (gS rfl (gS rfl (gS rfl (gS rfl g0)))))))))))))))))))))) (gS rfl (gS rfl (gS rfl (gS rfl (gS rfl (gS rfl (gS rfl (gS rfl (gS rfl (gS rfl (gS rfl (gS rfl (gS rfl (gS rfl (gS rfl (gS rfl (gS rfl (gS rfl (gS rfl (gS rfl (gS rfl g0))))))))))))))))))))) (gS rfl (gS rfl (gS rfl (gS rfl (gS rfl (gS rfl (gS rfl (gS rfl (gS rfl (gS rfl (gS rfl (gS rfl (gS rfl (gS rfl (gS rfl (gS rfl (gS rfl (gS rfl (gS rfl (gS rfl g0)))))))))))))))))))) (gS rfl (gS rfl (gS rfl (gS rfl (gS rfl (gS rfl (gS rfl (gS rfl (gS rfl (gS rfl (gS rfl (gS rfl (gS rfl (gS rfl (gS rfl (gS rfl (gS rfl (gS rfl (gS rfl g0))))))))))))))))))) (gS rfl (gS rfl (gS rfl (gS rfl (gS rfl (gS rfl (gS rfl (gS rfl (gS rfl (gS rfl (gS rfl (gS rfl (gS rfl (gS rfl (gS rfl (gS rfl (gS rfl (gS rfl g0)))))))))))))))))) (gS rfl (gS rfl (gS rfl (gS rfl (gS rfl (gS rfl (gS rfl (gS rfl (gS rfl (gS rfl (gS rfl (gS rfl (gS rfl (gS rfl (gS rfl (gS rfl (gS rfl g0))))))))))))))))) (gS rfl (gS rfl (gS rfl (gS rfl (gS rfl (gS rfl (gS rfl (gS rfl (gS rfl (gS rfl (gS rfl (gS rfl (gS rfl (gS rfl (gS rfl (gS rfl g0)))))))))))))))) (gS rfl (gS rfl (gS rfl (gS rfl (gS rfl (gS rfl (gS rfl (gS rfl (gS rfl (gS rfl (gS rfl (gS rfl (gS rfl (gS rfl (gS rfl g0))))))))))))))) (gS rfl (gS rfl (gS rfl (gS rfl (gS rfl (gS rfl (gS rfl (gS rfl (gS rfl (gS rfl (gS rfl (gS rfl (gS rfl (gS rfl g0)))))))))))))) (gS rfl (gS rfl (gS rfl (gS rfl (gS rfl (gS rfl (gS rfl (gS rfl (gS rfl (gS rfl (gS rfl (gS rfl (gS rfl g0))))))))))))) (gS rfl (gS rfl (gS rfl (gS rfl (gS rfl (gS rfl (gS rfl (gS rfl (gS rfl (gS rfl (gS rfl (gS rfl g0)))))))))))) (gS rfl (gS rfl (gS rfl (gS rfl (gS rfl (gS rfl (gS rfl (gS rfl (gS rfl (gS rfl (gS rfl g0))))))))))) (gS rfl (gS rfl (gS rfl (gS rfl (gS rfl (gS rfl (gS rfl (gS rfl (gS rfl (gS rfl g0)))))))))) (gS rfl (gS rfl (gS rfl (gS rfl (gS rfl (gS rfl (gS rfl (gS rfl (gS rfl g0))))))))) (gS rfl (gS rfl (gS rfl (gS rfl (gS rfl (gS rfl (gS rfl (gS rfl g0)))))))) g0 (fun g => ?_)
  refine c_seq (fun K40 hK40 => ?_)
  refine c_region ?_
  refine l_step (y_moveV (et (gS rfl (gS rfl (gS rfl (gS rfl (gS rfl (gS rfl (gS rfl (gS rfl (gS rfl (gS rfl (gS rfl (gS rfl (gS rfl (gS rfl (gS rfl g0))))))))))))))) rfl)) ?_
  refine l_step (y_nil (et g0 rfl)) ?_
  refine l_step (y_idxAC 1 1 Hvaa.underlying318 sz_26 (et g0 rfl) rfl rfl rfl) ?_
  refine l_step (y_load1 one_26 (et g0 rfl) (at1 (kA.cell rfl))) ?_
  refine l_step (y_moveV (et (gS rfl (gS rfl (gS rfl (gS rfl (gS rfl (gS rfl (gS rfl (gS rfl (gS rfl (gS rfl (gS rfl (gS rfl (gS rfl (gS rfl (gS rfl (gS rfl (gS rfl g0))))))))))))))))) rfl)) ?_
  refine l_step (y_xor uk64 (et (gS rfl g0) rfl) (et g0 rfl) ?_ ?_) ?_
  repeat' first | assumption | refine rotl_lt64 ?_ (by decide) | refine x64 ?_ ?_ | refine and64 ?_ | exact not64 _
  repeat' first | assumption | refine rotl_lt64 ?_ (by decide) | refine x64 ?_ ?_ | refine and64 ?_ | exact not64 _
  refine l_eff (e_callV cal_416 (aC (et g0 rfl) (aC (v := .int .i64 ((1 : Nat) : Int)) rfl aN)) (rot_spec _ _ _ (by repeat' first | assumption | refine rotl_lt64 ?_ (by decide) | refine x64 ?_ ?_ | refine and64 ?_ | exact not64 _) (by decide))) (fun v41 w41 h41 => ?_)
  obtain ⟨rfl, u41⟩ := h41
  replace kA := kA.up u41
  replace U := U.tr u41
  obtain ⟨u0, eu0⟩ : ∃ z, Hid (z = rotl (a1 ^^^ d1) 1) := ⟨_, ⟨rfl⟩⟩
  have bu0 : u0 < 18446744073709551616 := by rw [eu0.out]; repeat' first | assumption | refine rotl_lt64 ?_ (by decide) | refine x64 ?_ ?_ | refine and64 ?_ | exact not64 _
  rw [← eu0.out]
  refine l_step (y_assignV (et g0 rfl)) ?_
  refine l_nil ?_
  refine hK40 _ _ ?_
  refine fg17 0 7 8 9 10 11 12 13 14 15 16 17 18 19 20 21 22 (gS rfl (gS rfl (gS rfl (gS rfl (gS rfl (gS rfl (gS rfl (gS rfl (gS rfl (gS rfl (gS rfl (gS rfl (gS rfl (gS rfl (gS rfl (gS rfl (gS rfl (gS rfl (gS rfl (gS rfl (gS rfl (gS rfl (gS rfl g0))))))))))))))))))))))) (gS rfl (gS rfl (gS rfl (gS rfl (gS rfl (gS rfl (gS rfl (gS rfl (gS rfl (gS rfl (gS rfl (gS rfl (gS rfl (gS rfl (gS rfl (gS rfl (gS rfl (gS rfl (gS rfl (gS rfl (gS rfl (gS rfl g0)))))))))))))))))))))) (gS rfl (gS rfl (gS rfl (gS rfl (gS rfl (gS rfl (gS rfl (gS rfl (gS rfl (gS rfl (gS rfl (gS rfl (gS rfl (gS rfl (gS rfl (gS rfl (gS rfl (gS rfl (gS rfl (gS rfl (gS rfl g0))))))))))))))))))))) (gS rfl (gS rfl (gS rfl (gS rfl (gS rfl (gS rfl (gS rfl (gS rfl (gS rfl (gS rfl (gS rfl (gS rfl (gS rfl (gS rfl (gS rfl (gS rfl (gS rfl (gS rfl (gS rfl (gS rfl g0)))))))))))))))))))) (gS rfl (gS rfl (gS rfl (gS rfl (gS rfl (gS rfl (gS rfl (gS rfl (gS rfl (gS rfl (gS rfl (gS rfl (gS rfl (gS rfl (gS rfl (gS rfl (gS rfl (gS rfl (gS rfl g0))))))))))))))))))) (gS rfl (gS rfl (gS rfl (gS rfl (gS rfl (gS rfl (gS rfl (gS rfl (gS rfl (gS rfl (gS rfl (gS rfl (gS rfl (gS rfl (gS rfl (gS rfl (gS rfl (gS rfl g0)))))))))))))))))) (gS rfl (gS rfl (gS rfl (gS rfl (gS rfl (gS rfl (gS rfl (gS rfl (gS rfl (gS rfl (gS rfl (gS rfl (gS rfl (gS rfl (gS rfl (gS rfl (gS rfl g0))))))))))))))))) (gS rfl (gS rfl (gS rfl (gS rfl (gS rfl (gS rfl (gS rfl (gS rfl (gS rfl (gS rfl (gS rfl (gS rfl (gS rfl (gS rfl (gS rfl (gS rfl g0)))))))))))))))) (gS rfl (gS rfl (gS rfl (gS rfl (gS rfl (gS rfl (gS rfl (gS rfl (gS rfl (gS rfl (gS rfl (gS rfl (gS rfl (gS rfl (gS rfl g0))))))))))))))) (gS rfl (gS rfl (gS rfl (gS rfl (gS rfl (gS rfl (gS rfl (gS rfl (gS rfl (gS rfl (gS rfl (gS rfl (gS rfl (gS rfl g0)))))))))))))) (gS rfl (gS rfl (gS rfl (gS rfl (gS rfl (gS rfl (gS rfl (gS rfl (gS rfl (gS rfl (gS rfl (gS rfl (gS rfl g0))))))))))))) (gS rfl (gS rfl (gS rfl (gS rfl (gS rfl (gS rfl (gS rfl (gS rfl (gS rfl (gS rfl (gS rfl (gS rfl g0)))))))))))) (gS rfl (gS rfl (gS rfl (gS rfl (gS rfl (gS rfl (gS rfl (gS rfl (gS rfl (gS rfl (gS rfl g0))))))))))) (gS rfl (gS rfl (gS rfl (gS rfl (gS rfl (gS rfl (gS rfl (gS rfl (gS rfl (gS rfl g0)))))))))) (gS rfl (gS rfl (gS rfl (gS rfl (gS rfl (gS rfl (gS rfl (gS rfl (gS rfl g0))))))))) (gS rfl (gS rfl (gS rfl (gS rfl (gS rfl (gS rfl (gS rfl (gS rfl g0)))))))) g0 (fun g => ?_)
  refine c_seq (fun K42 hK42 => ?_)
  refine c_region ?_
  refine l_step (y_moveV (et (gS rfl (gS rfl (gS rfl (gS rfl (gS rfl (gS rfl (gS rfl (gS rfl (gS rfl (gS rfl (gS rfl (gS rfl (gS rfl (gS rfl (gS rfl (gS rfl g0)))))))))))))))) rfl)) ?_
  refine l_step (y_nil (et g0 rfl)) ?_
  refine l_step (y_idxAC 7 7 Hvaa.underlying318 sz_26 (et g0 rfl) rfl rfl rfl) ?_
  refine l_step (y_load1 one_26 (et g0 rfl) (at1 (kA.cell rfl))) ?_
  refine l_step (y_moveV (et (gS rfl (gS rfl (gS rfl (gS rfl (gS rfl (gS rfl (gS rfl (gS rfl (gS rfl (gS rfl (gS rfl (gS rfl (gS rfl (gS rfl (gS rfl (gS rfl (gS rfl g0))))))))))))))))) rfl)) ?_
  refine l_step (y_xor uk64 (et (gS rfl g0) rfl) (et g0 rfl) ?_ ?_) ?_
  repeat' first | assumption | refine rotl_lt64 ?_ (by decide) | refine x64 ?_ ?_ | refine and64 ?_ | exact not64 _
  repeat' first | assumption | refine rotl_lt64 ?_ (by decide) | refine x64 ?_ ?_ | refine and64 ?_ | exact not64 _
  refine l_eff (e_callV cal_416 (aC (et g0 rfl) (aC (v := .int .i64 ((6 : Nat) : Int)) rfl aN)) (rot_spec _ _ _ (by repeat' first | assumption | refine rotl_lt64 ?_ (by decide) | refine x64 ?_ ?_ | refine and64 ?_ | exact not64 _) (by decide))) (fun v43 w43 h43 => ?_)
  obtain ⟨rfl, u43⟩ := h43
  replace kA := kA.up u43
  replace U := U.tr u43
  obtain ⟨u1, eu1⟩ : ∃ z, Hid (z = rotl (a7 ^^^ d2) 6) := ⟨_, ⟨rfl⟩⟩
  have bu1 : u1 < 18446744073709551616 := by rw [eu1.out]; repeat' first | assumption | refine rotl_lt64 ?_ (by decide) | refine x64 ?_ ?_ | refine and64 ?_ | exact not64 _
  rw [← eu1.out]
  refine l_step (y_assignV (et g0 rfl)) ?_
  refine l_nil ?_
  refine hK42 _ _ ?_
  refine fg18 0 7 8 9 10 11 12 13 14 15 16 17 18 19 20 21 22 23 (gS rfl (gS rfl (gS rfl (gS rfl (gS rfl (gS rfl (gS rfl (gS rfl (gS rfl (gS rfl (gS rfl (gS rfl (gS rfl (gS rfl (gS rfl (gS rfl (gS rfl (gS rfl (gS rfl (gS rfl (gS rfl (gS rfl (gS rfl (gS rfl g0)))))))))))))))))))))))) (gS rfl (gS rfl (gS rfl (gS rfl (gS rfl (gS rfl (gS rfl (gS rfl (gS rfl (gS rfl (gS rfl (gS rfl (gS rfl (gS rfl (gS rfl (gS rfl (gS rfl (gS rfl (gS rfl (gS rfl (gS rfl (gS rfl (gS rfl g0))))))))))))))))))))))) (gS rfl (gS rfl (gS rfl (gS rfl (gS rfl (gS rfl (gS rfl (gS rfl (gS rfl (gS rfl (gS rfl (gS rfl (gS rfl (gS rfl (gS rfl (gS rfl (gS rfl (gS rfl (gS rfl (gS rfl (gS rfl (gS rfl g0)))))))))))))))))))))) (gS rfl (gS rfl (gS rfl (gS rfl (gS rfl (gS rfl (gS rfl (gS rfl (gS rfl (gS rfl (gS rfl (gS rfl (gS rfl (gS rfl (gS rfl (gS rfl (gS rfl (gS rfl (gS rfl (gS rfl (gS rfl g0))))))))))))))))))))) (gS rfl (gS rfl (gS rfl (gS rfl (gS rfl (gS rfl (gS rfl (gS rfl (gS rfl (gS rfl (gS rfl (gS rfl (gS rfl (gS rfl (gS rfl (gS rfl (gS rfl (gS rfl (gS rfl (gS rfl g0)))))))))))))))))))) (gS rfl (gS rfl (gS rfl (gS rfl (gS rfl (gS rfl (gS rfl (gS rfl (gS rfl (gS rfl (gS rfl (gS rfl (gS rfl (gS rfl (gS rfl (gS rfl (gS rfl (gS rfl (gS rfl g0))))))))))))))))))) (gS rfl (gS rfl (gS rfl (gS rfl (gS rfl (gS rfl (gS rfl (gS rfl (gS rfl (gS rfl (gS rfl (gS rfl (gS rfl (gS rfl (gS rfl (gS rfl (gS rfl (gS rfl g0)))))))))))))))))) (gS rfl (gS rfl (gS rfl (gS rfl (gS rfl (gS rfl (gS rfl (gS rfl (gS rfl (gS rfl (gS rfl (gS rfl (gS rfl (gS rfl (gS rfl (gS rfl (gS rfl g0))))))))))))))))) (gS rfl (gS rfl (gS rfl (gS rfl (gS rfl (gS rfl (gS rfl (gS rfl (gS rfl (gS rfl (gS rfl (gS rfl (gS rfl (gS rfl (gS rfl (gS rfl g0)))))))))))))))) (gS rfl (gS rfl (gS rfl (gS rfl (gS rfl (gS rfl (gS rfl (gS rfl (gS rfl (gS rfl (gS rfl (gS rfl (gS rfl (gS rfl (gS rfl g0))))))))))))))) (gS rfl (gS rfl (gS rfl (gS rfl (gS rfl (gS rfl (gS rfl (gS rfl (gS rfl (gS rfl (gS rfl (gS rfl (gS rfl (gS rfl g0)))))))))))))) (gS rfl (gS rfl (gS rfl (gS rfl (gS rfl (gS rfl (gS rfl (gS rfl (gS rfl (gS rfl (gS rfl (gS rfl (gS rfl g0))))))))))))) (gS rfl (gS rfl (gS rfl (gS rfl (gS rfl (gS rfl (gS rfl (gS rfl (gS rfl (gS rfl (gS rfl (gS rfl g0)))))))))))) (gS rfl (gS rfl (gS rfl (gS rfl (gS rfl (gS rfl (gS rfl (gS rfl (gS rfl (gS rfl (gS rfl g0))))))))))) (gS rfl (gS rfl (gS rfl (gS rfl (gS rfl (gS rfl (gS rfl (gS rfl (gS rfl (gS rfl g0)))))))))) (gS rfl (gS rfl (gS rfl (gS rfl (gS rfl (gS rfl (gS rfl (gS rfl (gS rfl g0))))))))) (gS rfl (gS rfl (gS rfl (gS rfl (gS rfl (gS rfl (gS rfl (gS rfl g0)))))))) g0 (fun g => ?_)
  refine c_seq (fun K44 hK44 => ?_)
  refine c_region ?_
  refine l_step (y_moveV (et (gS rfl (gS rfl (gS rfl (gS rfl (gS rfl (gS rfl (gS rfl (gS rfl (gS rfl (gS rfl (gS rfl (gS rfl (gS rfl (gS rfl (gS rfl (gS rfl (gS rfl g0))))))))))))))))) rfl)) ?_
  refine l_step (y_nil (et g0 rfl)) ?_
  refine l_step (y_idxAC 13 13 Hvaa.underlying318 sz_26 (et g0 rfl) rfl rfl rfl) ?_
  refine l_step (y_load1 one_26 (et g0 rfl) (at1 (kA.cell rfl))) ?_
  refine l_step (y_moveV (et (gS rfl (gS rfl (gS rfl (gS rfl (gS rfl (gS rfl (gS rfl (gS rfl (gS rfl (gS rfl (gS rfl (gS rfl (gS rfl (gS rfl (gS rfl (gS rfl (gS rfl g0))))))))))))))))) rfl)) ?_
  refine l_step (y_xor uk64 (et (gS rfl g0) rfl) (et g0 rfl) ?_ ?_) ?_
  repeat' first | assumption | refine rotl_lt64 ?_ (by decide) | refine x64 ?_ ?_ | refine and64 ?_ | exact not64 _
  repeat' first | assumption | refine rotl_lt64 ?_ (by decide) | refine x64 ?_ ?_ | refine and64 ?_ | exact not64 _
  refine l_eff (e_callV cal_416 (aC (et g0 rfl) (aC (v := .int .i64 ((25 : Nat) : Int)) rfl aN)) (rot_spec _ _ _ (by repeat' first | assumption | refine rotl_lt64 ?_ (by decide) | refine x64 ?_ ?_ | refine and64 ?_ | exact not64 _) (by decide))) (fun v45 w45 h45 => ?_)
  obtain ⟨rfl, u45⟩ := h45
  replace kA := kA.up u45
  replace U := U.tr u45
  obtain ⟨u2, eu2⟩ : ∃ z, Hid (z = rotl (a13 ^^^ d3) 25) := ⟨_, ⟨rfl⟩⟩
  have bu2 : u2 < 18446744073709551616 := by rw [eu2.out]; repeat' first | assumption | refine rotl_lt64 ?_ (by decide) | refine x64 ?_ ?_ | refine and64 ?_ | exact not64 _
  rw [← eu2.out]
  refine l_step (y_assignV (et g0 rfl)) ?_
  refine l_nil ?_
  refine hK44 _ _ ?_
  refine fg19 0 7 8 9 10 11 12 13 14 15 16 17 18 19 20 21 22 23 24 (gS rfl (gS rfl (gS rfl (gS rfl (gS rfl (gS rfl (gS rfl (gS rfl (gS rfl (gS rfl (gS rfl (gS rfl (gS rfl (gS rfl (gS rfl (gS rfl (gS rfl (gS rfl (gS rfl (gS rfl (gS rfl (gS rfl (gS rfl (gS rfl (gS rfl g0))))))))))))))))))))))))) (gS rfl (gS rfl (gS rfl (gS rfl (gS rfl (gS rfl (gS rfl (gS rfl (gS rfl (gS rfl (gS rfl (gS rfl (gS rfl (gS rfl (gS rfl (gS rfl (gS rfl (gS rfl (gS rfl (gS rfl (gS rfl (gS rfl (gS rfl (gS rfl g0)))))))))))))))))))))))) (gS rfl (gS rfl (gS rfl (gS rfl (gS rfl (gS rfl (gS rfl (gS rfl (gS rfl (gS rfl (gS rfl (gS rfl (gS rfl (gS rfl (gS rfl (gS rfl (gS rfl (gS rfl (gS rfl (gS rfl (gS rfl (gS rfl (gS rfl g0))))))))))))))))))))))) (gS rfl (gS rfl (gS rfl (gS rfl (gS rfl (gS rfl (gS rfl (gS rfl (gS rfl (gS rfl (gS rfl (gS rfl (gS rfl (gS rfl (gS rfl (gS rfl (gS rfl (gS rfl (gS rfl (gS rfl (gS rfl (gS rfl g0)))))))))))))))))))))) (gS rfl (gS rfl (gS rfl (gS rfl (gS rfl (gS rfl (gS rfl (gS rfl (gS rfl (gS rfl (gS rfl (gS rfl (gS rfl (gS rfl (gS rfl (gS rfl (gS rfl (gS rfl (gS rfl (gS rfl (gS rfl g0))))))))))))))))))))) (gS rfl (gS rfl (gS rfl (gS rfl (gS rfl (gS rfl (gS rfl (gS rfl (gS rfl (gS rfl (gS rfl (gS rfl (gS rfl (gS rfl (gS rfl (gS rfl (gS rfl (gS rfl (gS rfl (gS rfl g0)))))))))))))))))))) (gS rfl (gS rfl (gS rfl (gS rfl (gS rfl (gS rfl (gS rfl (gS rfl (gS rfl (gS rfl (gS rfl (gS rfl (gS rfl (gS rfl (gS rfl (gS rfl (gS rfl (gS rfl (gS rfl g0))))))))))))))))))) (gS rfl (gS rfl (gS rfl (gS rfl (gS rfl (gS rfl (gS rfl (gS rfl (gS rfl (gS rfl (gS rfl (gS rfl (gS rfl (gS rfl (gS rfl (gS rfl (gS rfl (gS rfl g0)))))))))))))))))) (gS rfl (gS rfl (gS rfl (gS rfl (gS rfl (gS rfl (gS rfl (gS rfl (gS rfl (gS rfl (gS rfl (gS rfl (gS rfl (gS rfl (gS rfl (gS rfl (gS rfl g0))))))))))))))))) (gS rfl (gS rfl (gS rfl (gS rfl (gS rfl (gS rfl (gS rfl (gS rfl (gS rfl (gS rfl (gS rfl (gS rfl (gS rfl (gS rfl (gS rfl (gS rfl g0)))))))))))))))) (gS rfl (gS rfl (gS rfl (gS rfl (gS rfl (gS rfl (gS rfl (gS rfl (gS rfl (gS rfl (gS rfl (gS rfl (gS rfl (gS rfl (gS rfl g0))))))))))))))) (gS rfl (gS rfl (gS rfl (gS rfl (gS rfl (gS rfl (gS rfl (gS rfl (gS rfl (gS rfl (gS rfl (gS rfl (gS rfl (gS rfl g0)))))))))))))) (gS rfl (gS rfl (gS rfl (gS rfl (gS rfl (gS rfl (gS rfl (gS rfl (gS rfl (gS rfl (gS rfl (gS rfl (gS rfl g0))))))))))))) (gS rfl (gS rfl (gS rfl (gS rfl (gS rfl (gS rfl (gS rfl (gS rfl (gS rfl (gS rfl (gS rfl (gS rfl g0)))))))))))) (gS rfl (gS rfl (gS rfl (gS rfl (gS rfl (gS rfl (gS rfl (gS rfl (gS rfl (gS rfl (gS rfl g0))))))))))) (gS rfl (gS rfl (gS rfl (gS rfl (gS rfl (gS rfl (gS rfl (gS rfl (gS rfl (gS rfl g0)))))))))) (gS rfl (gS rfl (gS rfl (gS rfl (gS rfl (gS rfl (gS rfl (gS rfl (gS rfl g0))))))))) (gS rfl (gS rfl (gS rfl (gS rfl (gS rfl (gS rfl (gS rfl (gS rfl g0)))))))) g0 (fun g => ?_)
  refine c_seq (fun K46 hK46 => ?_)
  refine c_region ?_
  refine l_step (y_moveV (et (gS rfl (gS rfl (gS rfl (gS rfl (gS rfl (gS rfl (gS rfl (gS rfl (gS rfl (gS rfl (gS rfl (gS rfl (gS rfl (gS rfl (gS rfl (gS rfl (gS rfl (gS rfl g0)))))))))))))))))) rfl)) ?_
  refine l_step (y_nil (et g0 rfl)) ?_
  refine l_step (y_idxAC 19 19 Hvaa.underlying318 sz_26 (et g0 rfl) rfl rfl rfl) ?_
  refine l_step (y_load1 one_26 (et g0 rfl) (at1 (kA.cell rfl))) ?_
  refine l_step (y_moveV (et (gS rfl (gS rfl (gS rfl (gS rfl (gS rfl (gS rfl (gS rfl (gS rfl (gS rfl (gS rfl (gS rfl (gS rfl (gS rfl (gS rfl (gS rfl (gS rfl (gS rfl g0))))))))))))))))) rfl)) ?_
  refine l_step (y_xor uk64 (et (gS rfl g0) rfl) (et g0 rfl) ?_ ?_) ?_
  repeat' first | assumption | refine rotl_lt64 ?_ (by decide) | refine x64 ?_ ?_ | refine and64 ?_ | exact not64 _
  repeat' first | assumption | refine rotl_lt64 ?_ (by decide) | refine x64 ?_ ?_ | refine and64 ?_ | exact not64 _
  refine l_eff (e_callV cal_416 (aC (et g0 rfl) (aC (v := .int .i64 ((8 : Nat) : Int)) rfl aN)) (rot_spec _ _ _ (by repeat' first | assumption | refine rotl_lt64 ?_ (by decide) | refine x64 ?_ ?_ | refine and64 ?_ | exact not64 _) (by decide))) (fun v47 w47 h47 => ?_)
  obtain ⟨rfl, u47⟩ := h47
  replace kA := kA.up u47
  replace U := U.tr u47
  obtain ⟨u3, eu3⟩ : ∃ z, Hid (z = rotl (a19 ^^^ d4) 8) := ⟨_, ⟨rfl⟩⟩
  have bu3 : u3 < 18446744073709551616 := by rw [eu3.out]; repeat' first | assumption | refine rotl_lt64 ?_ (by decide) | refine x64 ?_ ?_ | refine and64 ?_ | exact not64 _
  rw [← eu3.out]
  refine l_step (y_assignV (et g0 rfl)) ?_
  refine l_nil ?_
  refine hK46 _ _ ?_
  refine fg20 0 7 8 9 10 11 12 13 14 15 16 17 18 19 20 21 22 23 24 25 (gS rfl (gS rfl (gS rfl (gS rfl (gS rfl (gS rfl (gS rfl (gS rfl (gS rfl (gS rfl (gS rfl (gS rfl (gS rfl (gS rfl (gS rfl (gS rfl (gS rfl (gS rfl (gS rfl (gS rfl (gS rfl (gS rfl (gS rfl (gS rfl (gS rfl (gS rfl g0)))))))))))))))))))))))))) (gS rfl (gS rfl (gS rfl (gS rfl (gS rfl (gS rfl (gS rfl (gS rfl (gS rfl (gS rfl (gS rfl (gS rfl (gS rfl (gS rfl (gS rfl (gS rfl (gS rfl (gS rfl (gS rfl (gS rfl (gS rfl (gS rfl (gS rfl (gS rfl (gS rfl g0))))))))))))))))))))))))) (gS rfl (gS rfl (gS rfl (gS rfl (gS rfl (gS rfl (gS rfl (gS rfl (gS rfl (gS rfl (gS rfl (gS rfl (gS rfl (gS rfl (gS rfl (gS rfl (gS rfl (gS rfl (gS rfl (gS rfl (gS rfl (gS rfl (gS rfl (gS rfl g0)))))))))))))))))))))))) (gS rfl (gS rfl (gS rfl (gS rfl (gS rfl (gS rfl (gS rfl (gS rfl (gS rfl (gS rfl (gS rfl (gS rfl (gS rfl (gS rfl (gS rfl (gS rfl (gS rfl (gS rfl (gS rfl (gS rfl (gS rfl (gS rfl (gS rfl g0))))))))))))))))))))))) (gS rfl (gS rfl (gS rfl (gS rfl (gS rfl (gS rfl (gS rfl (gS rfl (gS rfl (gS rfl (gS rfl (gS rfl (gS rfl (gS rfl (gS rfl (gS rfl (gS rfl (gS rfl (gS rfl (gS rfl (gS rfl (gS rfl g0)))))))))))))))))))))) (gS rfl (gS rfl (gS rfl (gS rfl (gS rfl (gS rfl (gS rfl (gS rfl (gS rfl (gS rfl (gS rfl (gS rfl (gS rfl (gS rfl (gS rfl (gS rfl (gS rfl (gS rfl (gS rfl (gS rfl (gS rfl g0))))))))))))))))))))) (gS rfl (gS rfl (gS rfl (gS rfl (gS rfl (gS rfl (gS rfl (gS rfl (gS rfl (gS rfl (gS rfl (gS rfl (gS rfl (gS rfl (gS rfl (gS rfl (gS rfl (gS rfl (gS rfl (gS rfl g0)))))))))))))))))))) (gS rfl (gS rfl (gS rfl (gS rfl (gS rfl (gS rfl (gS rfl (gS rfl (gS rfl (gS rfl (gS rfl (gS rfl (gS rfl (gS rfl (gS rfl (gS rfl (gS rfl (gS rfl (gS rfl g0))))))))))))))))))) (gS rfl (gS rfl (gS rfl (gS rfl (gS rfl (gS rfl (gS rfl (gS rfl (gS rfl (gS rfl (gS rfl (gS rfl (gS rfl (gS rfl (gS rfl (gS rfl (gS rfl (gS rfl g0)))))))))))))))))) (gS rfl (gS rfl (gS rfl (gS rfl (gS rfl (gS rfl (gS rfl (gS rfl (gS rfl (gS rfl (gS rfl (gS rfl (gS rfl (gS rfl (gS rfl (gS rfl (gS rfl g0))))))))))))))))) (gS rfl (gS rfl (gS rfl (gS rfl (gS rfl (gS rfl (gS rfl (gS rfl (gS rfl (gS rfl (gS rfl (gS rfl (gS rfl (gS rfl (gS rfl (gS rfl g0)))))))))))))))) (gS rfl (gS rfl (gS rfl (gS rfl (gS rfl (gS rfl (gS rfl (gS rfl (gS rfl (gS rfl (gS rfl (gS rfl (gS rfl (gS rfl (gS rfl g0))))))))))))))) (gS rfl (gS rfl (gS rfl (gS rfl (gS rfl (gS rfl (gS rfl (gS rfl (gS rfl (gS rfl (gS rfl (gS rfl (gS rfl (gS rfl g0)))))))))))))) (gS rfl (gS rfl (gS rfl (gS rfl (gS rfl (gS rfl (gS rfl (gS rfl (gS rfl (gS rfl (gS rfl (gS rfl (gS rfl g0))))))))))))) (gS rfl (gS rfl (gS rfl (gS rfl (gS rfl (gS rfl (gS rfl (gS rfl (gS rfl (gS rfl (gS rfl (gS rfl g0)))))))))))) (gS rfl (gS rfl (gS rfl (gS rfl (gS rfl (gS rfl (gS rfl (gS rfl (gS rfl (gS rfl (gS rfl g0))))))))))) (gS rfl (gS rfl (gS rfl (gS rfl (gS rfl (gS rfl (gS rfl (gS rfl (gS rfl (gS rfl g0)))))))))) (gS rfl (gS rfl (gS rfl (gS rfl (gS rfl (gS rfl (gS rfl (gS rfl (gS rfl g0))))))))) (gS rfl (gS rfl (gS rfl (gS rfl (gS rfl (gS rfl (gS rfl (gS rfl g0)))))))) g0 (fun g => ?_)
  refine c_seq (fun K48 hK48 => ?_)
  refine c_region ?_
  refine l_step (y_moveV (et (gS rfl (gS rfl (gS rfl (gS rfl (gS rfl (gS rfl (gS rfl (gS rfl (gS rfl (gS rfl (gS rfl (gS rfl (gS rfl (gS rfl (gS rfl (gS rfl (gS rfl (gS rfl (gS rfl g0))))))))))))))))))) rfl)) ?_
  refine l_step (y_nil (et g0 rfl)) ?_
  refine l_step (y_idxAC 20 20 Hvaa.underlying318 sz_26 (et g0 rfl) rfl rfl rfl) ?_
  refine l_step (y_load1 one_26 (et g0 rfl) (at1 (kA.cell rfl))) ?_
  refine l_step (y_moveV (et (gS rfl (gS rfl (gS rfl (gS rfl (gS rfl (gS rfl (gS rfl (gS rfl (gS rfl (gS rfl (gS rfl (gS rfl (gS rfl (gS rfl (gS rfl (gS rfl (gS rfl (gS rfl (gS rfl (gS rfl (gS rfl (gS rfl g0)))))))))))))))))))))) rfl)) ?_
  refine l_step (y_xor uk64 (et (gS rfl g0) rfl) (et g0 rfl) ?_ ?_) ?_
  repeat' first | assumption | refine rotl_lt64 ?_ (by decide) | refine x64 ?_ ?_ | refine and64 ?_ | exact not64 _
  repeat' first | assumption | refine rotl_lt64 ?_ (by decide) | refine x64 ?_ ?_ | refine and64 ?_ | exact not64 _
  refine l_eff (e_callV cal_416 (aC (et g0 rfl) (aC (v := .int .i64 ((18 : Nat) : Int)) rfl aN)) (rot_spec _ _ _ (by repeat' first | assumption | refine rotl_lt64 ?_ (by decide) | refine x64 ?_ ?_ | refine and64 ?_ | exact not64 _) (by decide))) (fun v49 w49 h49 => ?_)
  obtain ⟨rfl, u49⟩ := h49
  replace kA := kA.up u49
  replace U := U.tr u49
  obtain ⟨u4, eu4⟩ : ∃ z, Hid (z = rotl (a20 ^^^ d0) 18) := ⟨_, ⟨rfl⟩⟩
  have bu4 : u4 < 18446744073709551616 := by rw [eu4.out]; repeat' first | assumption | refine rotl_lt64 ?_ (by decide) | refine x64 ?_ ?_ | refine and64 ?_ | exact not64 _
  rw [← eu4.out]
  refine l_step (y_assignV (et g0 rfl)) ?_
  refine l_nil ?_
  refine hK48 _ _ ?_
  refine c_seq (fun K50 hK50 => ?_)
  refine c_region ?_
  refine l_step (y_moveV (et (gS rfl (gS rfl (gS rfl (gS rfl (gS rfl (gS rfl (gS rfl (gS rfl (gS rfl (gS rfl (gS rfl (gS rfl (gS rfl (gS rfl (gS rfl (gS rfl (gS rfl (gS rfl (gS rfl (gS rfl (gS rfl (gS rfl (gS rfl (gS rfl (gS rfl (gS rfl (gS rfl g0))))))))))))))))))))))))))) rfl)) ?_
  refine l_step (y_nil (et g0 rfl)) ?_
  refine l_step (y_idxAC 4 4 Hvaa.underlying318 sz_26 (et g0 rfl) rfl rfl rfl) ?_
  refine l_step (y_load1 one_26 (et g0 rfl) (at1 (kA.cell rfl))) ?_
  refine l_step (y_moveV (et (gS rfl (gS rfl (gS rfl (gS rfl (gS rfl (gS rfl (gS rfl (gS rfl (gS rfl (gS rfl (gS rfl (gS rfl (gS rfl (gS rfl (gS rfl (gS rfl (gS rfl (gS rfl (gS rfl (gS rfl (gS rfl (gS rfl (gS rfl (gS rfl (gS rfl (gS rfl g0)))))))))))))))))))))))))) rfl)) ?_
  refine l_step (y_xor uk64 (et (gS rfl g0) rfl) (et g0 rfl) ?_ ?_) ?_
  repeat' first | assumption | refine rotl_lt64 ?_ (by decide) | refine x64 ?_ ?_ | refine and64 ?_ | exact not64 _
  repeat' first | assumption | refine rotl_lt64 ?_ (by decide) | refine x64 ?_ ?_ | refine and64 ?_ | exact not64 _
  refine l_eff (e_callV cal_416 (aC (et g0 rfl) (aC (v := .int .i64 ((27 : Nat) : Int)) rfl aN)) (rot_spec _ _ _ (by repeat' first | assumption | refine rotl_lt64 ?_ (by decide) | refine x64 ?_ ?_ | refine and64 ?_ | exact not64 _) (by decide))) (fun v51 w51 h51 => ?_)
  obtain ⟨rfl, u51⟩ := h51
  replace kA := kA.up u51
  replace U := U.tr u51
  obtain ⟨v0, ev0⟩ : ∃ z, Hid (z = rotl (a4 ^^^ d4) 27) := ⟨_, ⟨rfl⟩⟩
  have bv0 : v0 < 18446744073709551616 := by rw [ev0.out]; repeat' first | assumption | refine rotl_lt64 ?_ (by decide) | refine x64 ?_ ?_ | refine and64 ?_ | exact not64 _
  rw [← ev0.out]
  refine l_step (y_assignV (et g0 rfl)) ?_
  refine l_nil ?_
  refine hK50 _ _ ?_
  refine c_seq (fun K52 hK52 => ?_)
  refine c_region ?_
  refine l_step (y_moveV (et (gS rfl (gS rfl (gS rfl (gS rfl (gS rfl (gS rfl (gS rfl (gS rfl (gS rfl (gS rfl (gS rfl (gS rfl (gS rfl (gS rfl (gS rfl (gS rfl (gS rfl (gS rfl (gS rfl (gS rfl (gS rfl (gS rfl (gS rfl (gS rfl (gS rfl (gS rfl (gS rfl (gS rfl (gS rfl (gS rfl (gS rfl (gS rfl (gS rfl (gS rfl (gS rfl g0))))))))))))))))))))))))))))))))))) rfl)) ?_
  refine l_step (y_nil (et g0 rfl)) ?_
  refine l_step (y_idxAC 5 5 Hvaa.underlying318 sz_26 (et g0 rfl) rfl rfl rfl) ?_
  refine l_step (y_load1 one_26 (et g0 rfl) (at1 (kA.cell rfl))) ?_
  refine l_step (y_moveV (et (gS rfl (gS rfl (gS rfl (gS rfl (gS rfl (gS rfl (gS rfl (gS rfl (gS rfl (gS rfl (gS rfl (gS rfl (gS rfl (gS rfl (gS rfl (gS rfl (gS rfl (gS rfl (gS rfl (gS rfl (gS rfl (gS rfl (gS rfl (gS rfl (gS rfl (gS rfl (gS rfl (gS rfl (gS rfl (gS rfl (gS rfl (gS rfl (gS rfl (gS rfl (gS rfl (gS rfl (gS rfl (gS rfl g0)))))))))))))))))))))))))))))))))))))) rfl)) ?_
  refine l_step (y_xor uk64 (et (gS rfl g0) rfl) (et g0 rfl) ?_ ?_) ?_
  repeat' first | assumption | refine rotl_lt64 ?_ (by decide) | refine x64 ?_ ?_ | refine and64 ?_ | exact not64 _
  repeat' first | assumption | refine rotl_lt64 ?_ (by decide) | refine x64 ?_ ?_ | refine and64 ?_ | exact not64 _
  refine l_eff (e_callV cal_416 (aC (et g0 rfl) (aC (v := .int .i64 ((36 : Nat) : Int)) rfl aN)) (rot_spec _ _ _ (by repeat' first | assumption | refine rotl_lt64 ?_ (by decide) | refine x64 ?_ ?_ | refine and64 ?_ | exact not64 _) (by decide))) (fun v53 w53 h53 => ?_)
  obtain ⟨rfl, u53⟩ := h53
  replace kA := kA.up u53
  replace U := U.tr u53
  obtain ⟨v1, ev1⟩ : ∃ z, Hid (z = rotl (a5 ^^^ d0) 36) := ⟨_, ⟨rfl⟩⟩
  have bv1 : v1 < 18446744073709551616 := by rw [ev1.out]; repeat' first | assumption | refine rotl_lt64 ?_ (by decide) | refine x64 ?_ ?_ | refine and64 ?_ | exact not64 _
  rw [← ev1.out]
  refine l_step (y_assignV (et g0 rfl)) ?_
  refine l_nil ?_
  refine hK52 _ _ ?_
  refine c_seq (fun K54 hK54 => ?_)
  refine c_region ?_
  refine l_step (y_moveV (et (gS rfl (gS rfl (gS rfl (gS rfl (gS rfl (gS rfl (gS rfl (gS rfl (gS rfl (gS rfl (gS rfl (gS rfl (gS rfl (gS rfl (gS rfl (gS rfl (gS rfl (gS rfl (gS rfl (gS rfl (gS rfl (gS rfl (gS rfl (gS rfl (gS rfl (gS rfl (gS rfl (gS rfl (gS rfl (gS rfl (gS rfl (gS rfl (gS rfl (gS rfl (gS rfl (gS rfl (gS rfl (gS rfl (gS rfl (gS rfl (gS rfl (gS rfl (gS rfl g0))))))))))))))))))))))))))))))))))))))))))) rfl)) ?_
  refine l_step (y_nil (et g0 rfl)) ?_
  refine l_step (y_idxAC 11 11 Hvaa.underlying318 sz_26 (et g0 rfl) rfl rfl rfl) ?_
  refine l_step (y_load1 one_26 (et g0 rfl) (at1 (kA.cell rfl))) ?_
  refine l_step (y_moveV (et (gS rfl (gS rfl (gS rfl (gS rfl (gS rfl (gS rfl (gS rfl (gS rfl (gS rfl (gS rfl (gS rfl (gS rfl (gS rfl (gS rfl (gS rfl (gS rfl (gS rfl (gS rfl (gS rfl (gS rfl (gS rfl (gS rfl (gS rfl (gS rfl (gS rfl (gS rfl (gS rfl (gS rfl (gS rfl (gS rfl (gS rfl (gS rfl (gS rfl (gS rfl (gS rfl (gS rfl (gS rfl (gS rfl (gS rfl (gS rfl (gS rfl (gS rfl (gS rfl (gS rfl (gS rfl g0))))))))))))))))))))))))))))))))))))))))))))) rfl)) ?_
  refine l_step (y_xor uk64 (et (gS rfl g0) rfl) (et g0 rfl) ?_ ?_) ?_
  repeat' first | assumption | refine rotl_lt64 ?_ (by decide) | refine x64 ?_ ?_ | refine and64 ?_ | exact not64 _
  repeat' first | assumption | refine rotl_lt64 ?_ (by decide) | refine x64 ?_ ?_ | refine and64 ?_ | exact not64 _
  refine l_eff (e_callV cal_416 (aC (et g0 rfl) (aC (v := .int .i64 ((10 : Nat) : Int)) rfl aN)) (rot_spec _ _ _ (by repeat' first | assumption | refine rotl_lt64 ?_ (by decide) | refine x64 ?_ ?_ | refine and64 ?_ | exact not64 _) (by decide))) (fun v55 w55 h55 => ?_)
  obtain ⟨rfl, u55⟩ := h55
  replace kA := kA.up u55
  replace U := U.tr u55
  obtain ⟨v2, ev2⟩ : ∃ z, Hid (z = rotl (a11 ^^^ d1) 10) := ⟨_, ⟨rfl⟩⟩
  have bv2 : v2 < 18446744073709551616 := by rw [ev2.out]; repeat' first | assumption | refine rotl_lt64 ?_ (by decide) | refine x64 ?_ ?_ | refine and64 ?_ | exact not64 _
  rw [← ev2.out]
  refine l_step (y_assignV (et g0 rfl)) ?_
  refine l_nil ?_
  refine hK54 _ _ ?_
  refine c_seq (fun K56 hK56 => ?_)
  refine c_region ?_
  refine l_step (y_moveV (et (gS rfl (gS rfl (gS rfl (gS rfl (gS rfl (gS rfl (gS rfl (gS rfl (gS rfl (gS rfl (gS rfl (gS rfl (gS rfl (gS rfl (gS rfl (gS rfl (gS rfl (gS rfl (gS rfl (gS rfl (gS rfl (gS rfl (gS rfl (gS rfl (gS rfl (gS rfl (gS rfl (gS rfl (gS rfl (gS rfl (gS rfl (gS rfl (gS rfl (gS rfl (gS rfl (gS rfl (gS rfl (gS rfl (gS rfl (gS rfl (gS rfl (gS rfl (gS rfl (gS rfl (gS rfl (gS rfl (gS rfl (gS rfl (gS rfl (gS rfl (gS rfl g0))))))))))))))))))))))))))))))))))))))))))))))))))) rfl)) ?_
  refine l_step (y_nil (et g0 rfl)) ?_
  refine l_step (y_idxAC 17 17 Hvaa.underlying318 sz_26 (et g0 rfl) rfl rfl rfl) ?_
  refine l_step (y_load1 one_26 (et g0 rfl) (at1 (kA.cell rfl))) ?_
  refine l_step (y_moveV (et (gS rfl (gS rfl (gS rfl (gS rfl (gS rfl (gS rfl (gS rfl (gS rfl (gS rfl (gS rfl (gS rfl (gS rfl (gS rfl (gS rfl (gS rfl (gS rfl (gS rfl (gS rfl (gS rfl (gS rfl (gS rfl (gS rfl (gS rfl (gS rfl (gS rfl (gS rfl (gS rfl (gS rfl (gS rfl (gS rfl (gS rfl (gS rfl (gS rfl (gS rfl (gS rfl (gS rfl (gS rfl (gS rfl (gS rfl (gS rfl (gS rfl (gS rfl (gS rfl (gS rfl (gS rfl (gS rfl (gS rfl (gS rfl (gS rfl (gS rfl (gS rfl (gS rfl g0)))))))))))))))))))))))))))))))))))))))))))))))))))) rfl)) ?_
  refine l_step (y_xor uk64 (et (gS rfl g0) rfl) (et g0 rfl) ?_ ?_) ?_
  repeat' first | assumption | refine rotl_lt64 ?_ (by decide) | refine x64 ?_ ?_ | refine and64 ?_ | exact not64 _
  repeat' first | assumption | refine rotl_lt64 ?_ (by decide) | refine x64 ?_ ?_ | refine and64 ?_ | exact not64 _
  refine l_eff (e_callV cal_416 (aC (et g0 rfl) (aC (v := .int .i64 ((15 : Nat) : Int)) rfl aN)) (rot_spec _ _ _ (by repeat' first | assumption | refine rotl_lt64 ?_ (by decide) | refine x64 ?_ ?_ | refine and64 ?_ | exact not64 _) (by decide))) (fun v57 w57 h57 => ?_)
  obtain ⟨rfl, u57⟩ := h57
  replace kA := kA.up u57
  replace U := U.tr u57
  obtain ⟨v3, ev3⟩ : ∃ z, Hid (z = rotl (a17 ^^^ d2) 15) := ⟨_, ⟨rfl⟩⟩
  have bv3 : v3 < 18446744073709551616 := by rw [ev3.out]; repeat' first | assumption | refine rotl_lt64 ?_ (by decide) | refine x64 ?_ ?_ | refine and64 ?_ | exact not64 _
  rw [← ev3.out]
  refine l_step (y_assignV (et g0 rfl)) ?_
  refine l_nil ?_
  refine hK56 _ _ ?_
  refine c_seq (fun K58 hK58 => ?_)
  refine c_region ?_
  refine l_step (y_moveV (et (gS rfl (gS rfl (gS rfl (gS rfl (gS rfl (gS rfl (gS rfl (gS rfl (gS rfl (gS rfl (gS rfl (gS rfl (gS rfl (gS rfl (gS rfl (gS rfl (gS rfl (gS rfl (gS rfl (gS rfl (gS rfl (gS rfl (gS rfl (gS rfl (gS rfl (gS rfl (gS rfl (gS rfl (gS rfl (gS rfl (gS rfl (gS rfl (gS rfl (gS rfl (gS rfl (gS rfl (gS rfl (gS rfl (gS rfl (gS rfl (gS rfl (gS rfl (gS rfl (gS rfl (gS rfl (gS rfl (gS rfl (gS rfl (gS rfl (gS rfl (gS rfl (gS rfl (gS rfl (gS rfl (gS rfl (gS rfl (gS rfl (gS rfl (gS rfl g0))))))))))))))))))))))))))))))))))))))))))))))))))))))))))) rfl)) ?_
  refine l_step (y_nil (et g0 rfl)) ?_
  refine l_step (y_idxAC 23 23 Hvaa.underlying318 sz_26 (et g0 rfl) rfl rfl rfl) ?_
  refine l_step (y_load1 one_26 (et g0 rfl) (at1 (kA.cell rfl))) ?_
  refine l_step (y_moveV (et (gS rfl (gS rfl (gS rfl (gS rfl (gS rfl (gS rfl (gS rfl (gS rfl (gS rfl (gS rfl (gS rfl (gS rfl (gS rfl (gS rfl (gS rfl (gS rfl (gS rfl (gS rfl (gS rfl (gS rfl (gS rfl (gS rfl (gS rfl (gS rfl (gS rfl (gS rfl (gS rfl (gS rfl (gS rfl (gS rfl (gS rfl (gS rfl (gS rfl (gS rfl (gS rfl (gS rfl (gS rfl (gS rfl (gS rfl (gS rfl (gS rfl (gS rfl (gS rfl (gS rfl (gS rfl (gS rfl (gS rfl (gS rfl (gS rfl (gS rfl (gS rfl (gS rfl (gS rfl (gS rfl (gS rfl (gS rfl (gS rfl (gS rfl (gS rfl g0))))))))))))))))))))))))))))))))))))))))))))))))))))))))))) rfl)) ?_
  refine l_step (y_xor uk64 (et (gS rfl g0) rfl) (et g0 rfl) ?_ ?_) ?_
  repeat' first | assumption | refine rotl_lt64 ?_ (by decide) | refine x64 ?_ ?_ | refine and64 ?_ | exact not64 _
  repeat' first | assumption | refine rotl_lt64 ?_ (by decide) | refine x64 ?_ ?_ | refine and64 ?_ | exact not64 _
  refine l_eff (e_callV cal_416 (aC (et g0 rfl) (aC (v := .int .i64 ((56 : Nat) : Int)) rfl aN)) (rot_spec _ _ _ (by repeat' first | assumption | refine rotl_lt64 ?_ (by decide) | refine x64 ?_ ?_ | refine and64 ?_ | exact not64 _) (by decide))) (fun v59 w59 h59 => ?_)
  obtain ⟨rfl, u59⟩ := h59
  replace kA := kA.up u59
  replace U := U.tr u59
  obtain ⟨v4, ev4⟩ : ∃ z, Hid (z = rotl (a23 ^^^ d3) 56) := ⟨_, ⟨rfl⟩⟩
  have bv4 : v4 < 18446744073709551616 := by rw [ev4.out]; repeat' first | assumption | refine rotl_lt64 ?_ (by decide) | refine x64 ?_ ?_ | refine and64 ?_ | exact not64 _
  rw [← ev4.out]
  refine l_step (y_assignV (et g0 rfl)) ?_
  refine l_nil ?_
  refine hK58 _ _ ?_
  refine c_seq (fun K60 hK60 => ?_)
  refine c_region ?_
  refine l_step (y_moveV (et (gS rfl (gS rfl (gS rfl (gS rfl (gS rfl (gS rfl (gS rfl (gS rfl (gS rfl (gS rfl (gS rfl (gS rfl (gS rfl (gS rfl (gS rfl (gS rfl (gS rfl (gS rfl (gS rfl (gS rfl (gS rfl (gS rfl (gS rfl (gS rfl (gS rfl (gS rfl (gS rfl (gS rfl (gS rfl (gS rfl (gS rfl (gS rfl (gS rfl (gS rfl (gS rfl (gS rfl (gS rfl (gS rfl (gS rfl (gS rfl (gS rfl (gS rfl (gS rfl (gS rfl (gS rfl (gS rfl (gS rfl (gS rfl (gS rfl (gS rfl (gS rfl (gS rfl (gS rfl (gS rfl (gS rfl (gS rfl (gS rfl (gS rfl (gS rfl (gS rfl (gS rfl (gS rfl (gS rfl (gS rfl (gS rfl (gS rfl (gS rfl g0))))))))))))))))))))))))))))))))))))))))))))))))))))))))))))))))))) rfl)) ?_
  refine l_step (y_nil (et g0 rfl)) ?_
  refine l_step (y_idxAC 2 2 Hvaa.underlying318 sz_26 (et g0 rfl) rfl rfl rfl) ?_
  refine l_step (y_load1 one_26 (et g0 rfl) (at1 (kA.cell rfl))) ?_
  refine l_step (y_moveV (et (gS rfl (gS rfl (gS rfl (gS rfl (gS rfl (gS rfl (gS rfl (gS rfl (gS rfl (gS rfl (gS rfl (gS rfl (gS rfl (gS rfl (gS rfl (gS rfl (gS rfl (gS rfl (gS rfl (gS rfl (gS rfl (gS rfl (gS rfl (gS rfl (gS rfl (gS rfl (gS rfl (gS rfl (gS rfl (gS rfl (gS rfl (gS rfl (gS rfl (gS rfl (gS rfl (gS rfl (gS rfl (gS rfl (gS rfl (gS rfl (gS rfl (gS rfl (gS rfl (gS rfl (gS rfl (gS rfl (gS rfl (gS rfl (gS rfl (gS rfl (gS rfl (gS rfl (gS rfl (gS rfl (gS rfl (gS rfl (gS rfl (gS rfl (gS rfl (gS rfl (gS rfl (gS rfl (gS rfl (gS rfl (gS rfl (gS rfl (gS rfl (gS rfl g0)))))))))))))))))))))))))))))))))))))))))))))))))))))))))))))))))))) rfl)) ?_
  refine l_step (y_xor uk64 (et (gS rfl g0) rfl) (et g0 rfl) ?_ ?_) ?_
  repeat' first | assumption | refine rotl_lt64 ?_ (by decide) | refine x64 ?_ ?_ | refine and64 ?_ | exact not64 _
  repeat' first | assumption | refine rotl_lt64 ?_ (by decide) | refine x64 ?_ ?_ | refine and64 ?_ | exact not64 _
  refine l_eff (e_callV cal_416 (aC (et g0 rfl) (aC (v := .int .i64 ((62 : Nat) : Int)) rfl aN)) (rot_spec _ _ _ (by repeat' first | assumption | refine rotl_lt64 ?_ (by decide) | refine x64 ?_ ?_ | refine and64 ?_ | exact not64 _) (by decide))) (fun v61 w61 h61 => ?_)
  obtain ⟨rfl, u61⟩ := h61
  replace kA := kA.up u61
  replace U := U.tr u61
  obtain ⟨x0, ex0⟩ : ∃ z, Hid (z = rotl (a2 ^^^ d2) 62) := ⟨_, ⟨rfl⟩⟩
  have bx0 : x0 < 18446744073709551616 := by rw [ex0.out]; repeat' first | assumption | refine rotl_lt64 ?_ (by decide) | refine x64 ?_ ?_ | refine and64 ?_ | exact not64 _
  rw [← ex0.out]
  refine l_step (y_assignV (et g0 rfl)) ?_
  refine l_nil ?_
  refine hK60 _ _ ?_
  refine c_seq (fun K62 hK62 => ?_)
  refine c_region ?_
  refine l_step (y_moveV (et (gS rfl (gS rfl (gS rfl (gS rfl (gS rfl (gS rfl (gS rfl (gS rfl (gS rfl (gS rfl (gS rfl (gS rfl (gS rfl (gS rfl (gS rfl (gS rfl (gS rfl (gS rfl (gS rfl (gS rfl (gS rfl (gS rfl (gS rfl (gS rfl (gS rfl (gS rfl (gS rfl (gS rfl (gS rfl (gS rfl (gS rfl (gS rfl (gS rfl (gS rfl (gS rfl (gS rfl (gS rfl (gS rfl (gS rfl (gS rfl (gS rfl (gS rfl (gS rfl (gS rfl (gS rfl (gS rfl (gS rfl (gS rfl (gS rfl (gS rfl (gS rfl (gS rfl (gS rfl (gS rfl (gS rfl (gS rfl (gS rfl (gS rfl (gS rfl (gS rfl (gS rfl (gS rfl (gS rfl (gS rfl (gS rfl (gS rfl (gS rfl (gS rfl (gS rfl (gS rfl (gS rfl (gS rfl (gS rfl (gS rfl (gS rfl g0))))))))))))))))))))))))))))))))))))))))))))))))))))))))))))))))))))))))))) rfl)) ?_
  refine l_step (y_nil (et g0 rfl)) ?_
  refine l_step (y_idxAC 8 8 Hvaa.underlying318 sz_26 (et g0 rfl) rfl rfl rfl) ?_
  refine l_step (y_load1 one_26 (et g0 rfl) (at1 (kA.cell rfl))) ?_
  refine l_step (y_moveV (et (gS rfl (gS rfl (gS rfl (gS rfl (gS rfl (gS rfl (gS rfl (gS rfl (gS rfl (gS rfl (gS rfl (gS rfl (gS rfl (gS rfl (gS rfl (gS rfl (gS rfl (gS rfl (gS rfl (gS rfl (gS rfl (gS rfl (gS rfl (gS rfl (gS rfl (gS rfl (gS rfl (gS rfl (gS rfl (gS rfl (gS rfl (gS rfl (gS rfl (gS rfl (gS rfl (gS rfl (gS rfl (gS rfl (gS rfl (gS rfl (gS rfl (gS rfl (gS rfl (gS rfl (gS rfl (gS rfl (gS rfl (gS rfl (gS rfl (gS rfl (gS rfl (gS rfl (gS rfl (gS rfl (gS rfl (gS rfl (gS rfl (gS rfl (gS rfl (gS rfl (gS rfl (gS rfl (gS rfl (gS rfl (gS rfl (gS rfl (gS rfl (gS rfl (gS rfl (gS rfl (gS rfl (gS rfl (gS rfl (gS rfl (gS rfl g0))))))))))))))))))))))))))))))))))))))))))))))))))))))))))))))))))))))))))) rfl)) ?_
  refine l_step (y_xor uk64 (et (gS rfl g0) rfl) (et g0 rfl) ?_ ?_) ?_
  repeat' first | assumption | refine rotl_lt64 ?_ (by decide) | refine x64 ?_ ?_ | refine and64 ?_ | exact not64 _
  repeat' first | assumption | refine rotl_lt64 ?_ (by decide) | refine x64 ?_ ?_ | refine and64 ?_ | exact not64 _
  refine l_eff (e_callV cal_416 (aC (et g0 rfl) (aC (v := .int .i64 ((55 : Nat) : Int)) rfl aN)) (rot_spec _ _ _ (by repeat' first | assumption | refine rotl_lt64 ?_ (by decide) | refine x64 ?_ ?_ | refine and64 ?_ | exact not64 _) (by decide))) (fun v63 w63 h63 => ?_)
  obtain ⟨rfl, u63⟩ := h63
  replace kA := kA.up u63
  replace U := U.tr u63
  obtain ⟨x1, ex1⟩ : ∃ z, Hid (z = rotl (a8 ^^^ d3) 55) := ⟨_, ⟨rfl⟩⟩
  have bx1 : x1 < 18446744073709551616 := by rw [ex1.out]; repeat' first | assumption | refine rotl_lt64 ?_ (by decide) | refine x64 ?_ ?_ | refine and64 ?_ | exact not64 _
  rw [← ex1.out]
  refine l_step (y_assignV (et g0 rfl)) ?_
  refine l_nil ?_
  refine hK62 _ _ ?_
  refine c_seq (fun K64 hK64 => ?_)
  refine c_region ?_
  refine l_step (y_moveV (et (gS rfl (gS rfl (gS rfl (gS rfl (gS rfl (gS rfl (gS rfl (gS rfl (gS rfl (gS rfl (gS rfl (gS rfl (gS rfl (gS rfl (gS rfl (gS rfl (gS rfl (gS rfl (gS rfl (gS rfl (gS rfl (gS rfl (gS rfl (gS rfl (gS rfl (gS rfl (gS rfl (gS rfl (gS rfl (gS rfl (gS rfl (gS rfl (gS rfl (gS rfl (gS rfl (gS rfl (gS rfl (gS rfl (gS rfl (gS rfl (gS rfl (gS rfl (gS rfl (gS rfl (gS rfl (gS rfl (gS rfl (gS rfl (gS rfl (gS rfl (gS rfl (gS rfl (gS rfl (gS rfl (gS rfl (gS rfl (gS rfl (gS rfl (gS rfl (gS rfl (gS rfl (gS rfl (gS rfl (gS rfl (gS rfl (gS rfl (gS rfl (gS rfl (gS rfl (gS rfl (gS rfl (gS rfl (gS rfl (gS rfl (gS rfl (gS rfl (gS rfl (gS rfl (gS rfl (gS rfl (gS rfl (gS rfl (gS rfl g0))))))))))))))))))))))))))))))))))))))))))))))))))))))))))))))))))))))))))))))))))) rfl)) ?_
  refine l_step (y_nil (et g0 rfl)) ?_
  refine l_step (y_idxAC 14 14 Hvaa.underlying318 sz_26 (et g0 rfl) rfl rfl rfl) ?_
  refine l_step (y_load1 one_26 (et g0 rfl) (at1 (kA.cell rfl))) ?_
  refine l_step (y_moveV (et (gS rfl (gS rfl (gS rfl (gS rfl (gS rfl (gS rfl (gS rfl (gS rfl (gS rfl (gS rfl (gS rfl (gS rfl (gS rfl (gS rfl (gS rfl (gS rfl (gS rfl (gS rfl (gS rfl (gS rfl (gS rfl (gS rfl (gS rfl (gS rfl (gS rfl (gS rfl (gS rfl (gS rfl (gS rfl (gS rfl (gS rfl (gS rfl (gS rfl (gS rfl (gS rfl (gS rfl (gS rfl (gS rfl (gS rfl (gS rfl (gS rfl (gS rfl (gS rfl (gS rfl (gS rfl (gS rfl (gS rfl (gS rfl (gS rfl (gS rfl (gS rfl (gS rfl (gS rfl (gS rfl (gS rfl (gS rfl (gS rfl (gS rfl (gS rfl (gS rfl (gS rfl (gS rfl (gS rfl (gS rfl (gS rfl (gS rfl (gS rfl (gS rfl (gS rfl (gS rfl (gS rfl (gS rfl (gS rfl (gS rfl (gS rfl (gS rfl (gS rfl (gS rfl (gS rfl (gS rfl (gS rfl (gS rfl g0)))))))))))))))))))))))))))))))))))))))))))))))))))))))))))))))))))))))))))))))))) rfl)) ?_
  refine l_step (y_xor uk64 (et (gS rfl g0) rfl) (et g0 rfl) ?_ ?_) ?_
  repeat' first | assumption | refine rotl_lt64 ?_ (by decide) | refine x64 ?_ ?_ | refine and64 ?_ | exact not64 _
  repeat' first | assumption | refine rotl_lt64 ?_ (by decide) | refine x64 ?_ ?_ | refine and64 ?_ | exact not64 _
  refine l_eff (e_callV cal_416 (aC (et g0 rfl) (aC (v := .int .i64 ((39 : Nat) : Int)) rfl aN)) (rot_spec _ _ _ (by repeat' first | assumption | refine rotl_lt64 ?_ (by decide) | refine x64 ?_ ?_ | refine and64 ?_ | exact not64 _) (by decide))) (fun v65 w65 h65 => ?_)
  obtain ⟨rfl, u65⟩ := h65
  replace kA := kA.up u65
  replace U := U.tr u65
  obtain ⟨x2, ex2⟩ : ∃ z, Hid (z = rotl (a14 ^^^ d4) 39) := ⟨_, ⟨rfl⟩⟩
  have bx2 : x2 < 18446744073709551616 := by rw [ex2.out]; repeat' first | assumption | refine rotl_lt64 ?_ (by decide) | refine x64 ?_ ?_ | refine and64 ?_ | exact not64 _
  rw [← ex2.out]
  refine l_step (y_assignV (et g0 rfl)) ?_
  refine l_nil ?_
  refine hK64 _ _ ?_
  refine c_seq (fun K66 hK66 => ?_)
  refine c_region ?_
  refine l_step (y_moveV (et (gS rfl (gS rfl (gS rfl (gS rfl (gS rfl (gS rfl (gS rfl (gS rfl (gS rfl (gS rfl (gS rfl (gS rfl (gS rfl (gS rfl (gS rfl (gS rfl (gS rfl (gS rfl (gS rfl (gS rfl (gS rfl (gS rfl (gS rfl (gS rfl (gS rfl (gS rfl (gS rfl (gS rfl (gS rfl (gS rfl (gS rfl (gS rfl (gS rfl (gS rfl (gS rfl (gS rfl (gS rfl (gS rfl (gS rfl (gS rfl (gS rfl (gS rfl (gS rfl (gS rfl (gS rfl (gS rfl (gS rfl (gS rfl (gS rfl (gS rfl (gS rfl (gS rfl (gS rfl (gS rfl (gS rfl (gS rfl (gS rfl (gS rfl (gS rfl (gS rfl (gS rfl (gS rfl (gS rfl (gS rfl (gS rfl (gS rfl (gS rfl (gS rfl (gS rfl (gS rfl (gS rfl (gS rfl (gS rfl (gS rfl (gS rfl (gS rfl (gS rfl (gS rfl (gS rfl (gS rfl (gS rfl (gS rfl (gS rfl (gS rfl (gS rfl (gS rfl (gS rfl (gS rfl (gS rfl (gS rfl (gS rfl g0))))))))))))))))))))))))))))))))))))))))))))))))))))))))))))))))))))))))))))))))))))))))))) rfl)) ?_
  refine l_step (y_nil (et g0 rfl)) ?_
  refine l_step (y_idxAC 15 15 Hvaa.underlying318 sz_26 (et g0 rfl) rfl rfl rfl) ?_
  refine l_step (y_load1 one_26 (et g0 rfl) (at1 (kA.cell rfl))) ?_
  refine l_step (y_moveV (et (gS rfl (gS rfl (gS rfl (gS rfl (gS rfl (gS rfl (gS rfl (gS rfl (gS rfl (gS rfl (gS rfl (gS rfl (gS rfl (gS rfl (gS rfl (gS rfl (gS rfl (gS rfl (gS rfl (gS rfl (gS rfl (gS rfl (gS rfl (gS rfl (gS rfl (gS rfl (gS rfl (gS rfl (gS rfl (gS rfl (gS rfl (gS rfl (gS rfl (gS rfl (gS rfl (gS rfl (gS rfl (gS rfl (gS rfl (gS rfl (gS rfl (gS rfl (gS rfl (gS rfl (gS rfl (gS rfl (gS rfl (gS rfl (gS rfl (gS rfl (gS rfl (gS rfl (gS rfl (gS rfl (gS rfl (gS rfl (gS rfl (gS rfl (gS rfl (gS rfl (gS rfl (gS rfl (gS rfl (gS rfl (gS rfl (gS rfl (gS rfl (gS rfl (gS rfl (gS rfl (gS rfl (gS rfl (gS rfl (gS rfl (gS rfl (gS rfl (gS rfl (gS rfl (gS rfl (gS rfl (gS rfl (gS rfl (gS rfl (gS rfl (gS rfl (gS rfl (gS rfl (gS rfl (gS rfl (gS rfl (gS rfl (gS rfl (gS rfl (gS rfl g0)))))))))))))))))))))))))))))))))))))))))))))))))))))))))))))))))))))))))))))))))))))))))))))) rfl)) ?_
  refine l_step (y_xor uk64 (et (gS rfl g0) rfl) (et g0 rfl) ?_ ?_) ?_
  repeat' first | assumption | refine rotl_lt64 ?_ (by decide) | refine x64 ?_ ?_ | refine and64 ?_ | exact not64 _
  repeat' first | assumption | refine rotl_lt64 ?_ (by decide) | refine x64 ?_ ?_ | refine and64 ?_ | exact not64 _
  refine l_eff (e_callV cal_416 (aC (et g0 rfl) (aC (v := .int .i64 ((41 : Nat) : Int)) rfl aN)) (rot_spec _ _ _ (by repeat' first | assumption | refine rotl_lt64 ?_ (by decide) | refine x64 ?_ ?_ | refine and64 ?_ | exact not64 _) (by decide))) (fun v67 w67 h67 => ?_)
  obtain ⟨rfl, u67⟩ := h67
  replace kA := kA.up u67
  replace U := U.tr u67
  obtain ⟨x3, ex3⟩ : ∃ z, Hid (z = rotl (a15 ^^^ d0) 41) := ⟨_, ⟨rfl⟩⟩
  have bx3 : x3 < 18446744073709551616 := by rw [ex3.out]; repeat' first | assumption | refine rotl_lt64 ?_ (by decide) | refine x64 ?_ ?_ | refine and64 ?_ | exact not64 _
  rw [← ex3.out]
  refine l_step (y_assignV (et g0 rfl)) ?_
  refine l_nil ?_
  refine hK66 _ _ ?_
  refine c_seq (fun K68 hK68 => ?_)
  refine c_region ?_
  refine l_step (y_moveV (et (gS rfl (gS rfl (gS rfl (gS rfl (gS rfl (gS rfl (gS rfl (gS rfl (gS rfl (gS rfl (gS rfl (gS rfl (gS rfl (gS rfl (gS rfl (gS rfl (gS rfl (gS rfl (gS rfl (gS rfl (gS rfl (gS rfl (gS rfl (gS rfl (gS rfl (gS rfl (gS rfl (gS rfl (gS rfl (gS rfl (gS rfl (gS rfl (gS rfl (gS rfl (gS rfl (gS rfl (gS rfl (gS rfl (gS rfl (gS rfl (gS rfl (gS rfl (gS rfl (gS rfl (gS rfl (gS rfl (gS rfl (gS rfl (gS rfl (gS rfl (gS rfl (gS rfl (gS rfl (gS rfl (gS rfl (gS rfl (gS rfl (gS rfl (gS rfl (gS rfl (gS rfl (gS rfl (gS rfl (gS rfl (gS rfl (gS rfl (gS rfl (gS rfl (gS rfl (gS rfl (gS rfl (gS rfl (gS rfl (gS rfl (gS rfl (gS rfl (gS rfl (gS rfl (gS rfl (gS rfl (gS rfl (gS rfl (gS rfl (gS rfl (gS rfl (gS rfl (gS rfl (gS rfl (gS rfl (gS rfl (gS rfl (gS rfl (gS rfl (gS rfl (gS rfl (gS rfl (gS rfl (gS rfl (gS rfl g0))))))))))))))))))))))))))))))))))))))))))))))))))))))))))))))))))))))))))))))))))))))))))))))))))) rfl)) ?_
  refine l_step (y_nil (et g0 rfl)) ?_
  refine l_step (y_idxAC 21 21 Hvaa.underlying318 sz_26 (et g0 rfl) rfl rfl rfl) ?_
  refine l_step (y_load1 one_26 (et g0 rfl) (at1 (kA.cell rfl))) ?_
  refine l_step (y_moveV (et (gS rfl (gS rfl (gS rfl (gS rfl (gS rfl (gS rfl (gS rfl (gS rfl (gS rfl (gS rfl (gS rfl (gS rfl (gS rfl (gS rfl (gS rfl (gS rfl (gS rfl (gS rfl (gS rfl (gS rfl (gS rfl (gS rfl (gS rfl (gS rfl (gS rfl (gS rfl (gS rfl (gS rfl (gS rfl (gS rfl (gS rfl (gS rfl (gS rfl (gS rfl (gS rfl (gS rfl (gS rfl (gS rfl (gS rfl (gS rfl (gS rfl (gS rfl (gS rfl (gS rfl (gS rfl (gS rfl (gS rfl (gS rfl (gS rfl (gS rfl (gS rfl (gS rfl (gS rfl (gS rfl (gS rfl (gS rfl (gS rfl (gS rfl (gS rfl (gS rfl (gS rfl (gS rfl (gS rfl (gS rfl (gS rfl (gS rfl (gS rfl (gS rfl (gS rfl (gS rfl (gS rfl (gS rfl (gS rfl (gS rfl (gS rfl (gS rfl (gS rfl (gS rfl (gS rfl (gS rfl (gS rfl (gS rfl (gS rfl (gS rfl (gS rfl (gS rfl (gS rfl (gS rfl (gS rfl (gS rfl (gS rfl (gS rfl (gS rfl (gS rfl (gS rfl (gS rfl (gS rfl (gS rfl (gS rfl (gS rfl (gS rfl g0))))))))))))))))))))))))))))))))))))))))))))))))))))))))))))))))))))))))))))))))))))))))))))))))))))) rfl)) ?_
  refine l_step (y_xor uk64 (et (gS rfl g0) rfl) (et g0 rfl) ?_ ?_) ?_
  repeat' first | assumption | refine rotl_lt64 ?_ (by decide) | refine x64 ?_ ?_ | refine and64 ?_ | exact not64 _
  repeat' first | assumption | refine rotl_lt64 ?_ (by decide) | refine x64 ?_ ?_ | refine and64 ?_ | exact not64 _
  refine l_eff (e_callV cal_416 (aC (et g0 rfl) (aC (v := .int .i64 ((2 : Nat) : Int)) rfl aN)) (rot_spec _ _ _ (by repeat' first | assumption | refine rotl_lt64 ?_ (by decide) | refine x64 ?_ ?_ | refine and64 ?_ | exact not64 _) (by decide))) (fun v69 w69 h69 => ?_)
  obtain ⟨rfl, u69⟩ := h69
  replace kA := kA.up u69
  replace U := U.tr u69
  obtain ⟨x4, ex4⟩ : ∃ z, Hid (z = rotl (a21 ^^^ d1) 2) := ⟨_, ⟨rfl⟩⟩
  have bx4 : x4 < 18446744073709551616 := by rw [ex4.out]; repeat' first | assumption | refine rotl_lt64 ?_ (by decide) | refine x64 ?_ ?_ | refine and64 ?_ | exact not64 _
  rw [← ex4.out]
  refine l_step (y_assignV (et g0 rfl)) ?_
  refine l_nil ?_
  refine hK68 _ _ ?_
  refine c_seq (fun K70 hK70 => ?_)
  refine c_region ?_
  refine l_step (y_moveV (et (gS rfl (gS rfl (gS rfl (gS rfl (gS rfl (gS rfl (gS rfl (gS rfl (gS rfl (gS rfl (gS rfl (gS rfl (gS rfl (gS rfl (gS rfl (gS rfl (gS rfl (gS rfl (gS rfl (gS rfl (gS rfl (gS rfl (gS rfl (gS rfl (gS rfl (gS rfl (gS rfl (gS rfl (gS rfl (gS rfl (gS rfl (gS rfl (gS rfl (gS rfl (gS rfl (gS rfl (gS rfl (gS rfl (gS rfl (gS rfl (gS rfl (gS rfl (gS rfl (gS rfl (gS rfl (gS rfl (gS rfl (gS rfl (gS rfl (gS rfl (gS rfl (gS rfl (gS rfl (gS rfl (gS rfl (gS rfl (gS rfl (gS rfl (gS rfl (gS rfl (gS rfl (gS rfl (gS rfl (gS rfl (gS rfl (gS rfl (gS rfl (gS rfl (gS rfl (gS rfl (gS rfl (gS rfl (gS rfl (gS rfl (gS rfl (gS rfl (gS rfl (gS rfl (gS rfl (gS rfl (gS rfl (gS rfl (gS rfl (gS rfl (gS rfl (gS rfl (gS rfl (gS rfl (gS rfl (gS rfl (gS rfl (gS rfl (gS rfl (gS rfl (gS rfl (gS rfl (gS rfl (gS rfl (gS rfl (gS rfl (gS rfl (gS rfl (gS rfl (gS rfl (gS rfl (gS rfl (gS rfl g0))))))))))))))))))))))))))))))))))))))))))))))))))))))))))))))))))))))))))))))))))))))))))))))))))))))))))) rfl)) ?_
  refine l_step (y_moveV (et (gS rfl (gS rfl (gS rfl (gS rfl (gS rfl (gS rfl (gS rfl (gS rfl (gS rfl (gS rfl (gS rfl (gS rfl (gS rfl (gS rfl (gS rfl (gS rfl (gS rfl (gS rfl (gS rfl (gS rfl (gS rfl (gS rfl (gS rfl (gS rfl (gS rfl (gS rfl (gS rfl (gS rfl (gS rfl (gS rfl (gS rfl (gS rfl (gS rfl (gS rfl (gS rfl (gS rfl (gS rfl (gS rfl (gS rfl (gS rfl (gS rfl (gS rfl (gS rfl (gS rfl (gS rfl (gS rfl (gS rfl (gS rfl (gS rfl (gS rfl (gS rfl (gS rfl (gS rfl (gS rfl (gS rfl (gS rfl (gS rfl (gS rfl (gS rfl (gS rfl (gS rfl (gS rfl (gS rfl (gS rfl (gS rfl (gS rfl (gS rfl (gS rfl (gS rfl (gS rfl (gS rfl (gS rfl (gS rfl (gS rfl (gS rfl (gS rfl (gS rfl (gS rfl (gS rfl (gS rfl (gS rfl (gS rfl (gS rfl (gS rfl (gS rfl (gS rfl (gS rfl (gS rfl (gS rfl (gS rfl (gS rfl (gS rfl (gS rfl (gS rfl (gS rfl (gS rfl (gS rfl (gS rfl (gS rfl (gS rfl (gS rfl (gS rfl g0)))))))))))))))))))))))))))))))))))))))))))))))))))))))))))))))))))))))))))))))))))))))))))))))))))))) rfl)) ?_
  refine l_step (y_moveV (et (gS rfl (gS rfl (gS rfl (gS rfl (gS rfl (gS rfl (gS rfl (gS rfl (gS rfl (gS rfl (gS rfl (gS rfl (gS rfl (gS rfl (gS rfl (gS rfl (gS rfl (gS rfl (gS rfl (gS rfl (gS rfl (gS rfl (gS rfl (gS rfl (gS rfl (gS rfl (gS rfl (gS rfl (gS rfl (gS rfl (gS rfl (gS rfl (gS rfl (gS rfl (gS rfl (gS rfl (gS rfl (gS rfl (gS rfl (gS rfl (gS rfl (gS rfl (gS rfl (gS rfl (gS rfl (gS rfl (gS rfl (gS rfl (gS rfl (gS rfl (gS rfl (gS rfl (gS rfl (gS rfl (gS rfl (gS rfl (gS rfl (gS rfl (gS rfl (gS rfl (gS rfl (gS rfl (gS rfl (gS rfl (gS rfl (gS rfl (gS rfl (gS rfl (gS rfl (gS rfl (gS rfl (gS rfl (gS rfl (gS rfl (gS rfl (gS rfl (gS rfl (gS rfl (gS rfl (gS rfl (gS rfl (gS rfl (gS rfl (gS rfl (gS rfl (gS rfl (gS rfl (gS rfl (gS rfl (gS rfl (gS rfl (gS rfl (gS rfl (gS rfl (gS rfl (gS rfl (gS rfl (gS rfl (gS rfl (gS rfl (gS rfl (gS rfl g0)))))))))))))))))))))))))))))))))))))))))))))))))))))))))))))))))))))))))))))))))))))))))))))))))))))) rfl)) ?_
  refine l_step (y_not64 (et g0 rfl) ?_) ?_
  first | exact limb_lt _ _ | omega
  refine l_step (y_moveV (et (gS rfl (gS rfl (gS rfl (gS rfl (gS rfl (gS rfl (gS rfl (gS rfl (gS rfl (gS rfl (gS rfl (gS rfl (gS rfl (gS rfl (gS rfl (gS rfl (gS rfl (gS rfl (gS rfl (gS rfl (gS rfl (gS rfl (gS rfl (gS rfl (gS rfl (gS rfl (gS rfl (gS rfl (gS rfl (gS rfl (gS rfl (gS rfl (gS rfl (gS rfl (gS rfl (gS rfl (gS rfl (gS rfl (gS rfl (gS rfl (gS rfl (gS rfl (gS rfl (gS rfl (gS rfl (gS rfl (gS rfl (gS rfl (gS rfl (gS rfl (gS rfl (gS rfl (gS rfl (gS rfl (gS rfl (gS rfl (gS rfl (gS rfl (gS rfl (gS rfl (gS rfl (gS rfl (gS rfl (gS rfl (gS rfl (gS rfl (gS rfl (gS rfl (gS rfl (gS rfl (gS rfl (gS rfl (gS rfl (gS rfl (gS rfl (gS rfl (gS rfl (gS rfl (gS rfl (gS rfl (gS rfl (gS rfl (gS rfl (gS rfl (gS rfl (gS rfl (gS rfl (gS rfl (gS rfl (gS rfl (gS rfl (gS rfl (gS rfl (gS rfl (gS rfl (gS rfl (gS rfl (gS rfl (gS rfl (gS rfl (gS rfl (gS rfl (gS rfl g0))))))))))))))))))))))))))))))))))))))))))))))))))))))))))))))))))))))))))))))))))))))))))))))))))))))) rfl)) ?_
  refine l_step (y_and uk64 (et (gS rfl g0) rfl) (et g0 rfl) ?_ ?_) ?_
  repeat' first | assumption | refine rotl_lt64 ?_ (by decide) | refine x64 ?_ ?_ | refine and64 ?_ | exact not64 _
  repeat' first | assumption | refine rotl_lt64 ?_ (by decide) | refine x64 ?_ ?_ | refine and64 ?_ | exact not64 _
  refine l_step (y_xor uk64 (et (gS rfl (gS rfl (gS rfl (gS rfl g0)))) rfl) (et g0 rfl) ?_ ?_) ?_
  repeat' first | assumption | refine rotl_lt64 ?_ (by decide) | refine x64 ?_ ?_ | refine and64 ?_ | exact not64 _
  repeat' first | assumption | refine rotl_lt64 ?_ (by decide) | refine x64 ?_ ?_ | refine and64 ?_ | exact not64 _
  refine l_step (y_nil (et (gS rfl (gS rfl (gS rfl (gS rfl (gS rfl (gS rfl g0)))))) rfl)) ?_
  refine l_step (y_idxAC 0 0 Hvaa.underlying318 sz_26 (et g0 rfl) rfl rfl rfl) ?_
  refine l_effN (e_store sz_26 (et g0 rfl) (cellsV (et (gS rfl (gS rfl g0)) rfl) rfl) rfl (by intro v hv; simp at hv; subst hv; rfl) kA (by exact Nat.le_of_ble_eq_true rfl)) (fun v71 w71 h71 => ?_)
  obtain ⟨rfl, x71⟩ := h71
  replace kA := x71.blk
  replace U := U.st x71 (.inl (by first | rfl | (simp; done)))
  replace kA : Blk w71 b (uL [s0 ^^^ ((18446744073709551615 - s1) &&& s2), a1, a2, a3, a4, a5, a6, a7, a8, a9, a10, a11, a12, a13, a14, a15, a16, a17, a18, a19, a20, a21, a22, a23, a24]).toArray := kA
  refine l_nil ?_
  refine hK70 _ _ ?_
  refine c_seq (fun K72 hK72 => ?_)
  refine c_region ?_
  refine l_step (y_moveV (et (gS rfl (gS rfl (gS rfl (gS rfl (gS rfl (gS rfl (gS rfl (gS rfl (gS rfl (gS rfl (gS rfl (gS rfl (gS rfl (gS rfl (gS rfl (gS rfl (gS rfl (gS rfl (gS rfl (gS rfl (gS rfl (gS rfl (gS rfl (gS rfl (gS rfl (gS rfl (gS rfl (gS rfl (gS rfl (gS rfl (gS rfl (gS rfl (gS rfl (gS rfl (gS rfl (gS rfl (gS rfl (gS rfl (gS rfl (gS rfl (gS rfl (gS rfl (gS rfl (gS rfl (gS rfl (gS rfl (gS rfl (gS rfl (gS rfl (gS rfl (gS rfl (gS rfl (gS rfl (gS rfl (gS rfl (gS rfl (gS rfl (gS rfl (gS rfl (gS rfl (gS rfl (gS rfl (gS rfl (gS rfl (gS rfl (gS rfl (gS rfl (gS rfl (gS rfl (gS rfl (gS rfl (gS rfl (gS rfl (gS rfl (gS rfl (gS rfl (gS rfl (gS rfl (gS rfl (gS rfl (gS rfl (gS rfl (gS rfl (gS rfl (gS rfl (gS rfl (gS rfl (gS rfl (gS rfl (gS rfl (gS rfl (gS rfl (gS rfl (gS rfl (gS rfl (gS rfl (gS rfl (gS rfl (gS rfl (gS rfl (gS rfl (gS rfl (gS rfl (gS rfl (gS rfl (gS rfl (gS rfl (gS rfl (gS rfl (gS rfl (gS rfl (gS rfl (gS rfl (gS rfl (gS rfl (gS rfl g0)))))))))))))))))))))))))))))))))))))))))))))))))))))))))))))))))))))))))))))))))))))))))))))))))))))))))))))))))))) rfl)) ?_
  refine l_step (y_moveV (et (gS rfl (gS rfl (gS rfl (gS rfl (gS rfl (gS rfl (gS rfl (gS rfl (gS rfl (gS rfl (gS rfl (gS rfl (gS rfl (gS rfl (gS rfl (gS rfl (gS rfl (gS rfl (gS rfl (gS rfl (gS rfl (gS rfl (gS rfl (gS rfl (gS rfl (gS rfl (gS rfl (gS rfl (gS rfl (gS rfl (gS rfl (gS rfl (gS rfl (gS rfl (gS rfl (gS rfl (gS rfl (gS rfl (gS rfl (gS rfl (gS rfl (gS rfl (gS rfl (gS rfl (gS rfl (gS rfl (gS rfl (gS rfl (gS rfl (gS rfl (gS rfl (gS rfl (gS rfl (gS rfl (gS rfl (gS rfl (gS rfl (gS rfl (gS rfl (gS rfl (gS rfl (gS rfl (gS rfl (gS rfl (gS rfl (gS rfl (gS rfl (gS rfl (gS rfl (gS rfl (gS rfl (gS rfl (gS rfl (gS rfl (gS rfl (gS rfl (gS rfl (gS rfl (gS rfl (gS rfl (gS rfl (gS rfl (gS rfl (gS rfl (gS rfl (gS rfl (gS rfl (gS rfl (gS rfl (gS rfl (gS rfl (gS rfl (gS rfl (gS rfl (gS rfl (gS rfl (gS rfl (gS rfl (gS rfl (gS rfl (gS rfl (gS rfl (gS rfl (gS rfl (gS rfl (gS rfl (gS rfl (gS rfl (gS rfl (gS rfl g0)))))))))))))))))))))))))))))))))))))))))))))))))))))))))))))))))))))))))))))))))))))))))))))))))))))))))))))) rfl)) ?_
  refine l_step (y_moveV (et (gS rfl (gS rfl (gS rfl (gS rfl (gS rfl (gS rfl (gS rfl (gS rfl (gS rfl (gS rfl (gS rfl (gS rfl (gS rfl (gS rfl (gS rfl (gS rfl (gS rfl (gS rfl (gS rfl (gS rfl (gS rfl (gS rfl (gS rfl (gS rfl (gS rfl (gS rfl (gS rfl (gS rfl (gS rfl (gS rfl (gS rfl (gS rfl (gS rfl (gS rfl (gS rfl (gS rfl (gS rfl (gS rfl (gS rfl (gS rfl (gS rfl (gS rfl (gS rfl (gS rfl (gS rfl (gS rfl (gS rfl (gS rfl (gS rfl (gS rfl (gS rfl (gS rfl (gS rfl (gS rfl (gS rfl (gS rfl (gS rfl (gS rfl (gS rfl (gS rfl (gS rfl (gS rfl (gS rfl (gS rfl (gS rfl (gS rfl (gS rfl (gS rfl (gS rfl (gS rfl (gS rfl (gS rfl (gS rfl (gS rfl (gS rfl (gS rfl (gS rfl (gS rfl (gS rfl (gS rfl (gS rfl (gS rfl (gS rfl (gS rfl (gS rfl (gS rfl (gS rfl (gS rfl (gS rfl (gS rfl (gS rfl (gS rfl (gS rfl (gS rfl (gS rfl (gS rfl (gS rfl (gS rfl (gS rfl (gS rfl (gS rfl (gS rfl (gS rfl (gS rfl (gS rfl (gS rfl (gS rfl (gS rfl (gS rfl (gS rfl g0)))))))))))))))))))))))))))))))))))))))))))))))))))))))))))))))))))))))))))))))))))))))))))))))))))))))))))))) rfl)) ?_
  refine l_step (y_not64 (et g0 rfl) ?_) ?_
  first | exact limb_lt _ _ | omega
  refine l_step (y_moveV (et (gS rfl (gS rfl (gS rfl (gS rfl (gS rfl (gS rfl (gS rfl (gS rfl (gS rfl (gS rfl (gS rfl (gS rfl (gS rfl (gS rfl (gS rfl (gS rfl (gS rfl (gS rfl (gS rfl (gS rfl (gS rfl (gS rfl (gS rfl (gS rfl (gS rfl (gS rfl (gS rfl (gS rfl (gS rfl (gS rfl (gS rfl (gS rfl (gS rfl (gS rfl (gS rfl (gS rfl (gS rfl (gS rfl (gS rfl (gS rfl (gS rfl (gS rfl (gS rfl (gS rfl (gS rfl (gS rfl (gS rfl (gS rfl (gS rfl (gS rfl (gS rfl (gS rfl (gS rfl (gS rfl (gS rfl (gS rfl (gS rfl (gS rfl (gS rfl (gS rfl (gS rfl (gS rfl (gS rfl (gS rfl (gS rfl (gS rfl (gS rfl (gS rfl (gS rfl (gS rfl (gS rfl (gS rfl (gS rfl (gS rfl (gS rfl (gS rfl (gS rfl (gS rfl (gS rfl (gS rfl (gS rfl (gS rfl (gS rfl (gS rfl (gS rfl (gS rfl (gS rfl (gS rfl (gS rfl (gS rfl (gS rfl (gS rfl (gS rfl (gS rfl (gS rfl (gS rfl (gS rfl (gS rfl (gS rfl (gS rfl (gS rfl (gS rfl (gS rfl (gS rfl (gS rfl (gS rfl (gS rfl (gS rfl (gS rfl (gS rfl (gS rfl g0))))))))))))))))))))))))))))))))))))))))))))))))))))))))))))))))))))))))))))))))))))))))))))))))))))))))))))))) rfl)) ?_
  refine l_step (y_and uk64 (et (gS rfl g0) rfl) (et g0 rfl) ?_ ?_) ?_
  repeat' first | assumption | refine rotl_lt64 ?_ (by decide) | refine x64 ?_ ?_ | refine and64 ?_ | exact not64 _
  repeat' first | assumption | refine rotl_lt64 ?_ (by decide) | refine x64 ?_ ?_ | refine and64 ?_ | exact not64 _
  refine l_step (y_xor uk64 (et (gS rfl (gS rfl (gS rfl (gS rfl g0)))) rfl) (et g0 rfl) ?_ ?_) ?_
  repeat' first | assumption | refine rotl_lt64 ?_ (by decide) | refine x64 ?_ ?_ | refine and64 ?_ | exact not64 _
  repeat' first | assumption | refine rotl_lt64 ?_ (by decide) | refine x64 ?_ ?_ | refine and64 ?_ | exact not64 _
  refine l_step (y_nil (et (gS rfl (gS rfl (gS rfl (gS rfl (gS rfl (gS rfl g0)))))) rfl)) ?_
  refine l_step (y_idxAC 1 1 Hvaa.underlying318 sz_26 (et g0 rfl) rfl rfl rfl) ?_
  refine l_effN (e_store sz_26 (et g0 rfl) (cellsV (et (gS rfl (gS rfl g0)) rfl) rfl) rfl (by intro v hv; simp at hv; subst hv; rfl) kA (by exact Nat.le_of_ble_eq_true rfl)) (fun v73 w73 h73 => ?_)
  obtain ⟨rfl, x73⟩ := h73
  replace kA := x73.blk
  replace U := U.st x73 (.inl (by first | rfl | (simp; done)))
  replace kA : Blk w73 b (uL [s0 ^^^ ((18446744073709551615 - s1) &&& s2), s1 ^^^ ((18446744073709551615 - s2) &&& s3), a2, a3, a4, a5, a6, a7, a8, a9, a10, a11, a12, a13, a14, a15, a16, a17, a18, a19, a20, a21, a22, a23, a24]).toArray := kA
  refine l_nil ?_
  refine hK72 _ _ ?_
  refine c_seq (fun K74 hK74 => ?_)
  refine c_region ?_
  refine l_step (y_moveV (et (gS rfl (gS rfl (gS rfl (gS rfl (gS rfl (gS rfl (gS rfl (gS rfl (gS rfl (gS rfl (gS rfl (gS rfl (gS rfl (gS rfl (gS rfl (gS rfl (gS rfl (gS rfl (gS rfl (gS rfl (gS rfl (gS rfl (gS rfl (gS rfl (gS rfl (gS rfl (gS rfl (gS rfl (gS rfl (gS rfl (gS rfl (gS rfl (gS rfl (gS rfl (gS rfl (gS rfl (gS rfl (gS rfl (gS rfl (gS rfl (gS rfl (gS rfl (gS rfl (gS rfl (gS rfl (gS rfl (gS rfl (gS rfl (gS rfl (gS rfl (gS rfl (gS rfl (gS rfl (gS rfl (gS rfl (gS rfl (gS rfl (gS rfl (gS rfl (gS rfl (gS rfl (gS rfl (gS rfl (gS rfl (gS rfl (gS rfl (gS rfl (gS rfl (gS rfl (gS rfl (gS rfl (gS rfl (gS rfl (gS rfl (gS rfl (gS rfl (gS rfl (gS rfl (gS rfl (gS rfl (gS rfl (gS rfl (gS rfl (gS rfl (gS rfl (gS rfl (gS rfl (gS rfl (gS rfl (gS rfl (gS rfl (gS rfl (gS rfl (gS rfl (gS rfl (gS rfl (gS rfl (gS rfl (gS rfl (gS rfl (gS rfl (gS rfl (gS rfl (gS rfl (gS rfl (gS rfl (gS rfl (gS rfl (gS rfl (gS rfl (gS rfl (gS rfl (gS rfl (gS rfl (gS rfl (gS rfl (gS rfl (gS rfl (gS rfl (gS rfl (gS rfl (gS rfl (gS rfl (gS rfl (gS rfl g0))))))))))))))))))))))))))))))))))))))))))))))))))))))))))))))))))))))))))))))))))))))))))))))))))))))))))))))))))))))))))))) rfl)) ?_
  refine l_step (y_moveV (et (gS rfl (gS rfl (gS rfl (gS rfl (gS rfl (gS rfl (gS rfl (gS rfl (gS rfl (gS rfl (gS rfl (gS rfl (gS rfl (gS rfl (gS rfl (gS rfl (gS rfl (gS rfl (gS rfl (gS rfl (gS rfl (gS rfl (gS rfl (gS rfl (gS rfl (gS rfl (gS rfl (gS rfl (gS rfl (gS rfl (gS rfl (gS rfl (gS rfl (gS rfl (gS rfl (gS rfl (gS rfl (gS rfl (gS rfl (gS rfl (gS rfl (gS rfl (gS rfl (gS rfl (gS rfl (gS rfl (gS rfl (gS rfl (gS rfl (gS rfl (gS rfl (gS rfl (gS rfl (gS rfl (gS rfl (gS rfl (gS rfl (gS rfl (gS rfl (gS rfl (gS rfl (gS rfl (gS rfl (gS rfl (gS rfl (gS rfl (gS rfl (gS rfl (gS rfl (gS rfl (gS rfl (gS rfl (gS rfl (gS rfl (gS rfl (gS rfl (gS rfl (gS rfl (gS rfl (gS rfl (gS rfl (gS rfl (gS rfl (gS rfl (gS rfl (gS rfl (gS rfl (gS rfl (gS rfl (gS rfl (gS rfl (gS rfl (gS rfl (gS rfl (gS rfl (gS rfl (gS rfl (gS rfl (gS rfl (gS rfl (gS rfl (gS rfl (gS rfl (gS rfl (gS rfl (gS rfl (gS rfl (gS rfl (gS rfl (gS rfl (gS rfl (gS rfl (gS rfl (gS rfl (gS rfl (gS rfl (gS rfl (gS rfl g0)))))))))))))))))))))))))))))))))))))))))))))))))))))))))))))))))))))))))))))))))))))))))))))))))))))))))))))))))))))) rfl)) ?_
  refine l_step (y_moveV (et (gS rfl (gS rfl (gS rfl (gS rfl (gS rfl (gS rfl (gS rfl (gS rfl (gS rfl (gS rfl (gS rfl (gS rfl (gS rfl (gS rfl (gS rfl (gS rfl (gS rfl (gS rfl (gS rfl (gS rfl (gS rfl (gS rfl (gS rfl (gS rfl (gS rfl (gS rfl (gS rfl (gS rfl (gS rfl (gS rfl (gS rfl (gS rfl (gS rfl (gS rfl (gS rfl (gS rfl (gS rfl (gS rfl (gS rfl (gS rfl (gS rfl (gS rfl (gS rfl (gS rfl (gS rfl (gS rfl (gS rfl (gS rfl (gS rfl (gS rfl (gS rfl (gS rfl (gS rfl (gS rfl (gS rfl (gS rfl (gS rfl (gS rfl (gS rfl (gS rfl (gS rfl (gS rfl (gS rfl (gS rfl (gS rfl (gS rfl (gS rfl (gS rfl (gS rfl (gS rfl (gS rfl (gS rfl (gS rfl (gS rfl (gS rfl (gS rfl (gS rfl (gS rfl (gS rfl (gS rfl (gS rfl (gS rfl (gS rfl (gS rfl (gS rfl (gS rfl (gS rfl (gS rfl (gS rfl (gS rfl (gS rfl (gS rfl (gS rfl (gS rfl (gS rfl (gS rfl (gS rfl (gS rfl (gS rfl (gS rfl (gS rfl (gS rfl (gS rfl (gS rfl (gS rfl (gS rfl (gS rfl (gS rfl (gS rfl (gS rfl (gS rfl (gS rfl (gS rfl (gS rfl (gS rfl (gS rfl (gS rfl (gS rfl g0)))))))))))))))))))))))))))))))))))))))))))))))))))))))))))))))))))))))))))))))))))))))))))))))))))))))))))))))))))))) rfl)) ?_
  refine l_step (y_not64 (et g0 rfl) ?_) ?_
  first | exact limb_lt _ _ | omega
  refine l_step (y_moveV (et (gS rfl (gS rfl (gS rfl (gS rfl (gS rfl (gS rfl (gS rfl (gS rfl (gS rfl (gS rfl (gS rfl (gS rfl (gS rfl (gS rfl (gS rfl (gS rfl (gS rfl (gS rfl (gS rfl (gS rfl (gS rfl (gS rfl (gS rfl (gS rfl (gS rfl (gS rfl (gS rfl (gS rfl (gS rfl (gS rfl (gS rfl (gS rfl (gS rfl (gS rfl (gS rfl (gS rfl (gS rfl (gS rfl (gS rfl (gS rfl (gS rfl (gS rfl (gS rfl (gS rfl (gS rfl (gS rfl (gS rfl (gS rfl (gS rfl (gS rfl (gS rfl (gS rfl (gS rfl (gS rfl (gS rfl (gS rfl (gS rfl (gS rfl (gS rfl (gS rfl (gS rfl (gS rfl (gS rfl (gS rfl (gS rfl (gS rfl (gS rfl (gS rfl (gS rfl (gS rfl (gS rfl (gS rfl (gS rfl (gS rfl (gS rfl (gS rfl (gS rfl (gS rfl (gS rfl (gS rfl (gS rfl (gS rfl (gS rfl (gS rfl (gS rfl (gS rfl (gS rfl (gS rfl (gS rfl (gS rfl (gS rfl (gS rfl (gS rfl (gS rfl (gS rfl (gS rfl (gS rfl (gS rfl (gS rfl (gS rfl (gS rfl (gS rfl (gS rfl (gS rfl (gS rfl (gS rfl (gS rfl (gS rfl (gS rfl (gS rfl (gS rfl (gS rfl (gS rfl (gS rfl (gS rfl (gS rfl (gS rfl (gS rfl (gS rfl g0))))))))))))))))))))))))))))))))))))))))))))))))))))))))))))))))))))))))))))))))))))))))))))))))))))))))))))))))))))))) rfl)) ?_
  refine l_step (y_and uk64 (et (gS rfl g0) rfl) (et g0 rfl) ?_ ?_) ?_
  repeat' first | assumption | refine rotl_lt64 ?_ (by decide) | refine x64 ?_ ?_ | refine and64 ?_ | exact not64 _
  repeat' first | assumption | refine rotl_lt64 ?_ (by decide) | refine x64 ?_ ?_ | refine and64 ?_ | exact not64 _
  refine l_step (y_xor uk64 (et (gS rfl (gS rfl (gS rfl (gS rfl g0)))) rfl) (et g0 rfl) ?_ ?_) ?_
  repeat' first | assumption | refine rotl_lt64 ?_ (by decide) | refine x64 ?_ ?_ | refine and64 ?_ | exact not64 _
  repeat' first | assumption | refine rotl_lt64 ?_ (by decide) | refine x64 ?_ ?_ | refine and64 ?_ | exact not64 _
  refine l_step (y_nil (et (gS rfl (gS rfl (gS rfl (gS rfl (gS rfl (gS rfl g0)))))) rfl)) ?_
  refine l_step (y_idxAC 2 2 Hvaa.underlying318 sz_26 (et g0 rfl) rfl rfl rfl) ?_
  refine l_effN (e_store sz_26 (et g0 rfl) (cellsV (et (gS rfl (gS rfl g0)) rfl) rfl) rfl (by intro v hv; simp at hv; subst hv; rfl) kA (by exact Nat.le_of_ble_eq_true rfl)) (fun v75 w75 h75 => ?_)
  obtain ⟨rfl, x75⟩ := h75
  replace kA := x75.blk
  replace U := U.st x75 (.inl (by first | rfl | (simp; done)))
  replace kA : Blk w75 b (uL [s0 ^^^ ((18446744073709551615 - s1) &&& s2), s1 ^^^ ((18446744073709551615 - s2) &&& s3), s2 ^^^ ((18446744073709551615 - s3) &&& s4), a3, a4, a5, a6, a7, a8, a9, a10, a11, a12, a13, a14, a15, a16, a17, a18, a19, a20, a21, a22, a23, a24]).toArray := kA
  refine l_nil ?_
  refine hK74 _ _ ?_
  refine c_seq (fun K76 hK76 => ?_)
  refine c_region ?_
  refine l_step (y_moveV (et (gS rfl (gS rfl (gS rfl (gS rfl (gS rfl (gS rfl (gS rfl (gS rfl (gS rfl (gS rfl (gS rfl (gS rfl (gS rfl (gS rfl (gS rfl (gS rfl (gS rfl (gS rfl (gS rfl (gS rfl (gS rfl (gS rfl (gS rfl (gS rfl (gS rfl (gS rfl (gS rfl (gS rfl (gS rfl (gS rfl (gS rfl (gS rfl (gS rfl (gS rfl (gS rfl (gS rfl (gS rfl (gS rfl (gS rfl (gS rfl (gS rfl (gS rfl (gS rfl (gS rfl (gS rfl (gS rfl (gS rfl (gS rfl (gS rfl (gS rfl (gS rfl (gS rfl (gS rfl (gS rfl (gS rfl (gS rfl (gS rfl (gS rfl (gS rfl (gS rfl (gS rfl (gS rfl (gS rfl (gS rfl (gS rfl (gS rfl (gS rfl (gS rfl (gS rfl (gS rfl (gS rfl (gS rfl (gS rfl (gS rfl (gS rfl (gS rfl (gS rfl (gS rfl (gS rfl (gS rfl (gS rfl (gS rfl (gS rfl (gS rfl (gS rfl (gS rfl (gS rfl (gS rfl (gS rfl (gS rfl (gS rfl (gS rfl (gS rfl (gS rfl (gS rfl (gS rfl (gS rfl (gS rfl (gS rfl (gS rfl (gS rfl (gS rfl (gS rfl (gS rfl (gS rfl (gS rfl (gS rfl (gS rfl (gS rfl (gS rfl (gS rfl (gS rfl (gS rfl (gS rfl (gS rfl (gS rfl (gS rfl (gS rfl (gS rfl (gS rfl (gS rfl (gS rfl (gS rfl (gS rfl (gS rfl (gS rfl (gS rfl (gS rfl (gS rfl (gS rfl (gS rfl (gS rfl (gS rfl (gS rfl g0)))))))))))))))))))))))))))))))))))))))))))))))))))))))))))))))))))))))))))))))))))))))))))))))))))))))))))))))))))))))))))))))))))))) rfl)) ?_
  refine l_step (y_moveV (et (gS rfl (gS rfl (gS rfl (gS rfl (gS rfl (gS rfl (gS rfl (gS rfl (gS rfl (gS rfl (gS rfl (gS rfl (gS rfl (gS rfl (gS rfl (gS rfl (gS rfl (gS rfl (gS rfl (gS rfl (gS rfl (gS rfl (gS rfl (gS rfl (gS rfl (gS rfl (gS rfl (gS rfl (gS rfl (gS rfl (gS rfl (gS rfl (gS rfl (gS rfl (gS rfl (gS rfl (gS rfl (gS rfl (gS rfl (gS rfl (gS rfl (gS rfl (gS rfl (gS rfl (gS rfl (gS rfl (gS rfl (gS rfl (gS rfl (gS rfl (gS rfl (gS rfl (gS rfl (gS rfl (gS rfl (gS rfl (gS rfl (gS rfl (gS rfl (gS rfl (gS rfl (gS rfl (gS rfl (gS rfl (gS rfl (gS rfl (gS rfl (gS rfl (gS rfl (gS rfl (gS rfl (gS rfl (gS rfl (gS rfl (gS rfl (gS rfl (gS rfl (gS rfl (gS rfl (gS rfl (gS rfl (gS rfl (gS rfl (gS rfl (gS rfl (gS rfl (gS rfl (gS rfl (gS rfl (gS rfl (gS rfl (gS rfl (gS rfl (gS rfl (gS rfl (gS rfl (gS rfl (gS rfl (gS rfl (gS rfl (gS rfl (gS rfl (gS rfl (gS rfl (gS rfl (gS rfl (gS rfl (gS rfl (gS rfl (gS rfl (gS rfl (gS rfl (gS rfl (gS rfl (gS rfl (gS rfl (gS rfl (gS rfl (gS rfl (gS rfl (gS rfl (gS rfl (gS rfl (gS rfl (gS rfl (gS rfl g0)))))))))))))))))))))))))))))))))))))))))))))))))))))))))))))))))))))))))))))))))))))))))))))))))))))))))))))))))))))))))))))) rfl)) ?_
  refine l_step (y_moveV (et (gS rfl (gS rfl (gS rfl (gS rfl (gS rfl (gS rfl (gS rfl (gS rfl (gS rfl (gS rfl (gS rfl (gS rfl (gS rfl (gS rfl (gS rfl (gS rfl (gS rfl (gS rfl (gS rfl (gS rfl (gS rfl (gS rfl (gS rfl (gS rfl (gS rfl (gS rfl (gS rfl (gS rfl (gS rfl (gS rfl (gS rfl (gS rfl (gS rfl (gS rfl (gS rfl (gS rfl (gS rfl (gS rfl (gS rfl (gS rfl (gS rfl (gS rfl (gS rfl (gS rfl (gS rfl (gS rfl (gS rfl (gS rfl (gS rfl (gS rfl (gS rfl (gS rfl (gS rfl (gS rfl (gS rfl (gS rfl (gS rfl (gS rfl (gS rfl (gS rfl (gS rfl (gS rfl (gS rfl (gS rfl (gS rfl (gS rfl (gS rfl (gS rfl (gS rfl (gS rfl (gS rfl (gS rfl (gS rfl (gS rfl (gS rfl (gS rfl (gS rfl (gS rfl (gS rfl (gS rfl (gS rfl (gS rfl (gS rfl (gS rfl (gS rfl (gS rfl (gS rfl (gS rfl (gS rfl (gS rfl (gS rfl (gS rfl (gS rfl (gS rfl (gS rfl (gS rfl (gS rfl (gS rfl (gS rfl (gS rfl (gS rfl (gS rfl (gS rfl (gS rfl (gS rfl (gS rfl (gS rfl (gS rfl (gS rfl (gS rfl (gS rfl (gS rfl (gS rfl (gS rfl (gS rfl (gS rfl (gS rfl (gS rfl (gS rfl (gS rfl (gS rfl (gS rfl (gS rfl (gS rfl (gS rfl (gS rfl g0)))))))))))))))))))))))))))))))))))))))))))))))))))))))))))))))))))))))))))))))))))))))))))))))))))))))))))))))))))))))))))))) rfl)) ?_
  refine l_step (y_not64 (et g0 rfl) ?_) ?_
  first | exact limb_lt _ _ | omega
  refine l_step (y_moveV (et (gS rfl (gS rfl (gS rfl (gS rfl (gS rfl (gS rfl (gS rfl (gS rfl (gS rfl (gS rfl (gS rfl (gS rfl (gS rfl (gS rfl (gS rfl (gS rfl (gS rfl (gS rfl (gS rfl (gS rfl (gS rfl (gS rfl (gS rfl (gS rfl (gS rfl (gS rfl (gS rfl (gS rfl (gS rfl (gS rfl (gS rfl (gS rfl (gS rfl (gS rfl (gS rfl (gS rfl (gS rfl (gS rfl (gS rfl (gS rfl (gS rfl (gS rfl (gS rfl (gS rfl (gS rfl (gS rfl (gS rfl (gS rfl (gS rfl (gS rfl (gS rfl (gS rfl (gS rfl (gS rfl (gS rfl (gS rfl (gS rfl (gS rfl (gS rfl (gS rfl (gS rfl (gS rfl (gS rfl (gS rfl (gS rfl (gS rfl (gS rfl (gS rfl (gS rfl (gS rfl (gS rfl (gS rfl (gS rfl (gS rfl (gS rfl (gS rfl (gS rfl (gS rfl (gS rfl (gS rfl (gS rfl (gS rfl (gS rfl (gS rfl (gS rfl (gS rfl (gS rfl (gS rfl (gS rfl (gS rfl (gS rfl (gS rfl (gS rfl (gS rfl (gS rfl (gS rfl (gS rfl (gS rfl (gS rfl (gS rfl (gS rfl (gS rfl (gS rfl (gS rfl (gS rfl (gS rfl (gS rfl (gS rfl (gS rfl (gS rfl (gS rfl (gS rfl (gS rfl (gS rfl (gS rfl (gS rfl (gS rfl (gS rfl (gS rfl (gS rfl (gS rfl (gS rfl (gS rfl (gS rfl (gS rfl (gS rfl (gS rfl (gS rfl (gS rfl (gS rfl (gS rfl (gS rfl g0)))))))))))))))))))))))))))))))))))))))))))))))))))))))))))))))))))))))))))))))))))))))))))))))))))))))))))))))))))))))))))))))))))) rfl)) ?_
  refine l_step (y_and uk64 (et (gS rfl g0) rfl) (et g0 rfl) ?_ ?_) ?_
  repeat' first | assumption | refine rotl_lt64 ?_ (by decide) | refine x64 ?_ ?_ | refine and64 ?_ | exact not64 _
  repeat' first | assumption | refine rotl_lt64 ?_ (by decide) | refine x64 ?_ ?_ | refine and64 ?_ | exact not64 _
  refine l_step (y_xor uk64 (et (gS rfl (gS rfl (gS rfl (gS rfl g0)))) rfl) (et g0 rfl) ?_ ?_) ?_
  repeat' first | assumption | refine rotl_lt64 ?_ (by decide) | refine x64 ?_ ?_ | refine and64 ?_ | exact not64 _
  repeat' first | assumption | refine rotl_lt64 ?_ (by decide) | refine x64 ?_ ?_ | refine and64 ?_ | exact not64 _
  refine l_step (y_nil (et (gS rfl (gS rfl (gS rfl (gS rfl (gS rfl (gS rfl g0)))))) rfl)) ?_
  refine l_step (y_idxAC 3 3 Hvaa.underlying318 sz_26 (et g0 rfl) rfl rfl rfl) ?_
  refine l_effN (e_store sz_26 (et g0 rfl) (cellsV (et (gS rfl (gS rfl g0)) rfl) rfl) rfl (by intro v hv; simp at hv; subst hv; rfl) kA (by exact Nat.le_of_ble_eq_true rfl)) (fun v77 w77 h77 => ?_)
  obtain ⟨rfl, x77⟩ := h77
  replace kA := x77.blk
  replace U := U.st x77 (.inl (by first | rfl | (simp; done)))
  replace kA : Blk w77 b (uL [s0 ^^^ ((18446744073709551615 - s1) &&& s2), s1 ^^^ ((18446744073709551615 - s2) &&& s3), s2 ^^^ ((18446744073709551615 - s3) &&& s4), s3 ^^^ ((18446744073709551615 - s4) &&& s0), a4, a5, a6, a7, a8, a9, a10, a11, a12, a13, a14, a15, a16, a17, a18, a19, a20, a21, a22, a23, a24]).toArray := kA
  refine l_nil ?_
  refine hK76 _ _ ?_
  refine c_seq (fun K78 hK78 => ?_)
  refine c_region ?_
  refine l_step (y_moveV (et (gS rfl (gS rfl (gS rfl (gS rfl (gS rfl (gS rfl (gS rfl (gS rfl (gS rfl (gS rfl (gS rfl (gS rfl (gS rfl (gS rfl (gS rfl (gS rfl (gS rfl (gS rfl (gS rfl (gS rfl (gS rfl (gS rfl (gS rfl (gS rfl (gS rfl (gS rfl (gS rfl (gS rfl (gS rfl (gS rfl (gS rfl (gS rfl (gS rfl (gS rfl (gS rfl (gS rfl (gS rfl (gS rfl (gS rfl (gS rfl (gS rfl (gS rfl (gS rfl (gS rfl (gS rfl (gS rfl (gS rfl (gS rfl (gS rfl (gS rfl (gS rfl (gS rfl (gS rfl (gS rfl (gS rfl (gS rfl (gS rfl (gS rfl (gS rfl (gS rfl (gS rfl (gS rfl (gS rfl (gS rfl (gS rfl (gS rfl (gS rfl (gS rfl (gS rfl (gS rfl (gS rfl (gS rfl (gS rfl (gS rfl (gS rfl (gS rfl (gS rfl (gS rfl (gS rfl (gS rfl (gS rfl (gS rfl (gS rfl (gS rfl (gS rfl (gS rfl (gS rfl (gS rfl (gS rfl (gS rfl (gS rfl (gS rfl (gS rfl (gS rfl (gS rfl (gS rfl (gS rfl (gS rfl (gS rfl (gS rfl (gS rfl (gS rfl (gS rfl (gS rfl (gS rfl (gS rfl (gS rfl (gS rfl (gS rfl (gS rfl (gS rfl (gS rfl (gS rfl (gS rfl (gS rfl (gS rfl (gS rfl (gS rfl (gS rfl (gS rfl (gS rfl (gS rfl (gS rfl (gS rfl (gS rfl (gS rfl (gS rfl (gS rfl (gS rfl (gS rfl (gS rfl (gS rfl (gS rfl (gS rfl (gS rfl (gS rfl (gS rfl (gS rfl (gS rfl (gS rfl (gS rfl (gS rfl (gS rfl g0))))))))))))))))))))))))))))))))))))))))))))))))))))))))))))))))))))))))))))))))))))))))))))))))))))))))))))))))))))))))))))))))))))))))))))))) rfl)) ?_
  refine l_step (y_moveV (et (gS rfl (gS rfl (gS rfl (gS rfl (gS rfl (gS rfl (gS rfl (gS rfl (gS rfl (gS rfl (gS rfl (gS rfl (gS rfl (gS rfl (gS rfl (gS rfl (gS rfl (gS rfl (gS rfl (gS rfl (gS rfl (gS rfl (gS rfl (gS rfl (gS rfl (gS rfl (gS rfl (gS rfl (gS rfl (gS rfl (gS rfl (gS rfl (gS rfl (gS rfl (gS rfl (gS rfl (gS rfl (gS rfl (gS rfl (gS rfl (gS rfl (gS rfl (gS rfl (gS rfl (gS rfl (gS rfl (gS rfl (gS rfl (gS rfl (gS rfl (gS rfl (gS rfl (gS rfl (gS rfl (gS rfl (gS rfl (gS rfl (gS rfl (gS rfl (gS rfl (gS rfl (gS rfl (gS rfl (gS rfl (gS rfl (gS rfl (gS rfl (gS rfl (gS rfl (gS rfl (gS rfl (gS rfl (gS rfl (gS rfl (gS rfl (gS rfl (gS rfl (gS rfl (gS rfl (gS rfl (gS rfl (gS rfl (gS rfl (gS rfl (gS rfl (gS rfl (gS rfl (gS rfl (gS rfl (gS rfl (gS rfl (gS rfl (gS rfl (gS rfl (gS rfl (gS rfl (gS rfl (gS rfl (gS rfl (gS rfl (gS rfl (gS rfl (gS rfl (gS rfl (gS rfl (gS rfl (gS rfl (gS rfl (gS rfl (gS rfl (gS rfl (gS rfl (gS rfl (gS rfl (gS rfl (gS rfl (gS rfl (gS rfl (gS rfl (gS rfl (gS rfl (gS rfl (gS rfl (gS rfl (gS rfl (gS rfl (gS rfl (gS rfl (gS rfl (gS rfl (gS rfl (gS rfl (gS rfl (gS rfl g0)))))))))))))))))))))))))))))))))))))))))))))))))))))))))))))))))))))))))))))))))))))))))))))))))))))))))))))))))))))))))))))))))))))) rfl)) ?_
  refine l_step (y_moveV (et (gS rfl (gS rfl (gS rfl (gS rfl (gS rfl (gS rfl (gS rfl (gS rfl (gS rfl (gS rfl (gS rfl (gS rfl (gS rfl (gS rfl (gS rfl (gS rfl (gS rfl (gS rfl (gS rfl (gS rfl (gS rfl (gS rfl (gS rfl (gS rfl (gS rfl (gS rfl (gS rfl (gS rfl (gS rfl (gS rfl (gS rfl (gS rfl (gS rfl (gS rfl (gS rfl (gS rfl (gS rfl (gS rfl (gS rfl (gS rfl (gS rfl (gS rfl (gS rfl (gS rfl (gS rfl (gS rfl (gS rfl (gS rfl (gS rfl (gS rfl (gS rfl (gS rfl (gS rfl (gS rfl (gS rfl (gS rfl (gS rfl (gS rfl (gS rfl (gS rfl (gS rfl (gS rfl (gS rfl (gS rfl (gS rfl (gS rfl (gS rfl (gS rfl (gS rfl (gS rfl (gS rfl (gS rfl (gS rfl (gS rfl (gS rfl (gS rfl (gS rfl (gS rfl (gS rfl (gS rfl (gS rfl (gS rfl (gS rfl (gS rfl (gS rfl (gS rfl (gS rfl (gS rfl (gS rfl (gS rfl (gS rfl (gS rfl (gS rfl (gS rfl (gS rfl (gS rfl (gS rfl (gS rfl (gS rfl (gS rfl (gS rfl (gS rfl (gS rfl (gS rfl (gS rfl (gS rfl (gS rfl (gS rfl (gS rfl (gS rfl (gS rfl (gS rfl (gS rfl (gS rfl (gS rfl (gS rfl (gS rfl (gS rfl (gS rfl (gS rfl (gS rfl (gS rfl (gS rfl (gS rfl (gS rfl (gS rfl (gS rfl (gS rfl (gS rfl (gS rfl (gS rfl (gS rfl (gS rfl (gS rfl (gS rfl (gS rfl (gS rfl (gS rfl (gS rfl g0))))))))))))))))))))))))))))))))))))))))))))))))))))))))))))))))))))))))))))))))))))))))))))))))))))))))))))))))))))))))))))))))))))))))))) rfl)) ?_
  refine l_step (y_not64 (et g0 rfl) ?_) ?_
  first | exact limb_lt _ _ | omega
  refine l_step (y_moveV (et (gS rfl (gS rfl (gS rfl (gS rfl (gS rfl (gS rfl (gS rfl (gS rfl (gS rfl (gS rfl (gS rfl (gS rfl (gS rfl (gS rfl (gS rfl (gS rfl (gS rfl (gS rfl (gS rfl (gS rfl (gS rfl (gS rfl (gS rfl (gS rfl (gS rfl (gS rfl (gS rfl (gS rfl (gS rfl (gS rfl (gS rfl (gS rfl (gS rfl (gS rfl (gS rfl (gS rfl (gS rfl (gS rfl (gS rfl (gS rfl (gS rfl (gS rfl (gS rfl (gS rfl (gS rfl (gS rfl (gS rfl (gS rfl (gS rfl (gS rfl (gS rfl (gS rfl (gS rfl (gS rfl (gS rfl (gS rfl (gS rfl (gS rfl (gS rfl (gS rfl (gS rfl (gS rfl (gS rfl (gS rfl (gS rfl (gS rfl (gS rfl (gS rfl (gS rfl (gS rfl (gS rfl (gS rfl (gS rfl (gS rfl (gS rfl (gS rfl (gS rfl (gS rfl (gS rfl (gS rfl (gS rfl (gS rfl (gS rfl (gS rfl (gS rfl (gS rfl (gS rfl (gS rfl (gS rfl (gS rfl (gS rfl (gS rfl (gS rfl (gS rfl (gS rfl (gS rfl (gS rfl (gS rfl (gS rfl (gS rfl (gS rfl (gS rfl (gS rfl (gS rfl (gS rfl (gS rfl (gS rfl (gS rfl (gS rfl (gS rfl (gS rfl (gS rfl (gS rfl (gS rfl (gS rfl (gS rfl (gS rfl (gS rfl (gS rfl (gS rfl (gS rfl (gS rfl (gS rfl (gS rfl (gS rfl (gS rfl (gS rfl (gS rfl (gS rfl (gS rfl (gS rfl (gS rfl (gS rfl (gS rfl (gS rfl (gS rfl (gS rfl (gS rfl (gS rfl (gS rfl g0)))))))))))))))))))))))))))))))))))))))))))))))))))))))))))))))))))))))))))))))))))))))))))))))))))))))))))))))))))))))))))))))))))))))))))) rfl)) ?_
  refine l_step (y_and uk64 (et (gS rfl g0) rfl) (et g0 rfl) ?_ ?_) ?_
  repeat' first | assumption | refine rotl_lt64 ?_ (by decide) | refine x64 ?_ ?_ | refine and64 ?_ | exact not64 _
  repeat' first | assumption | refine rotl_lt64 ?_ (by decide) | refine x64 ?_ ?_ | refine and64 ?_ | exact not64 _
  refine l_step (y_xor uk64 (et (gS rfl (gS rfl (gS rfl (gS rfl g0)))) rfl) (et g0 rfl) ?_ ?_) ?_
  repeat' first | assumption | refine rotl_lt64 ?_ (by decide) | refine x64 ?_ ?_ | refine and64 ?_ | exact not64 _
  repeat' first | assumption | refine rotl_lt64 ?_ (by decide) | refine x64 ?_ ?_ | refine and64 ?_ | exact not64 _
  refine l_step (y_nil (et (gS rfl (gS rfl (gS rfl (gS rfl (gS rfl (gS rfl g0)))))) rfl)) ?_
  refine l_step (y_idxAC 4 4 Hvaa.underlying318 sz_26 (et g0 rfl) rfl rfl rfl) ?_
  refine l_effN (e_store sz_26 (et g0 rfl) (cellsV (et (gS rfl (gS rfl g0)) rfl) rfl) rfl (by intro v hv; simp at hv; subst hv; rfl) kA (by exact Nat.le_of_ble_eq_true rfl)) (fun v79 w79 h79 => ?_)
  obtain ⟨rfl, x79⟩ := h79
  replace kA := x79.blk
  replace U := U.st x79 (.inl (by first | rfl | (simp; done)))
  replace kA : Blk w79 b (uL [s0 ^^^ ((18446744073709551615 - s1) &&& s2), s1 ^^^ ((18446744073709551615 - s2) &&& s3), s2 ^^^ ((18446744073709551615 - s3) &&& s4), s3 ^^^ ((18446744073709551615 - s4) &&& s0), s4 ^^^ ((18446744073709551615 - s0) &&& s1), a5, a6, a7, a8, a9, a10, a11, a12, a13, a14, a15, a16, a17, a18, a19, a20, a21, a22, a23, a24]).toArray := kA
  refine l_nil ?_
  refine hK78 _ _ ?_
  refine c_seq (fun K80 hK80 => ?_)
  refine c_region ?_
  refine l_step (y_moveV (et (gS rfl (gS rfl (gS rfl (gS rfl (gS rfl (gS rfl (gS rfl (gS rfl (gS rfl (gS rfl (gS rfl (gS rfl (gS rfl (gS rfl (gS rfl (gS rfl (gS rfl (gS rfl (gS rfl (gS rfl (gS rfl (gS rfl (gS rfl (gS rfl (gS rfl (gS rfl (gS rfl (gS rfl (gS rfl (gS rfl (gS rfl (gS rfl (gS rfl (gS rfl (gS rfl (gS rfl (gS rfl (gS rfl (gS rfl (gS rfl (gS rfl (gS rfl (gS rfl (gS rfl (gS rfl (gS rfl (gS rfl (gS rfl (gS rfl (gS rfl (gS rfl (gS rfl (gS rfl (gS rfl (gS rfl (gS rfl (gS rfl (gS rfl (gS rfl (gS rfl (gS rfl (gS rfl (gS rfl (gS rfl (gS rfl (gS rfl (gS rfl (gS rfl (gS rfl (gS rfl (gS rfl (gS rfl (gS rfl (gS rfl (gS rfl (gS rfl (gS rfl (gS rfl (gS rfl (gS rfl (gS rfl (gS rfl (gS rfl (gS rfl (gS rfl (gS rfl (gS rfl (gS rfl (gS rfl (gS rfl (gS rfl (gS rfl (gS rfl (gS rfl (gS rfl (gS rfl (gS rfl (gS rfl (gS rfl (gS rfl (gS rfl (gS rfl (gS rfl (gS rfl (gS rfl (gS rfl (gS rfl (gS rfl (gS rfl (gS rfl (gS rfl (gS rfl (gS rfl (gS rfl (gS rfl (gS rfl (gS rfl (gS rfl (gS rfl (gS rfl (gS rfl (gS rfl (gS rfl (gS rfl (gS rfl (gS rfl (gS rfl (gS rfl (gS rfl (gS rfl (gS rfl (gS rfl (gS rfl (gS rfl (gS rfl (gS rfl (gS rfl (gS rfl (gS rfl (gS rfl (gS rfl (gS rfl (gS rfl (gS rfl (gS rfl (gS rfl (gS rfl (gS rfl (gS rfl (gS rfl (gS rfl (gS rfl g0)))))))))))))))))))))))))))))))))))))))))))))))))))))))))))))))))))))))))))))))))))))))))))))))))))))))))))))))))))))))))))))))))))))))))))))))))))))))) rfl)) ?_
  refine l_step (y_moveV (et (gS rfl (gS rfl (gS rfl (gS rfl (gS rfl (gS rfl (gS rfl (gS rfl (gS rfl (gS rfl (gS rfl (gS rfl (gS rfl (gS rfl (gS rfl (gS rfl (gS rfl (gS rfl (gS rfl (gS rfl (gS rfl (gS rfl (gS rfl (gS rfl (gS rfl (gS rfl (gS rfl (gS rfl (gS rfl (gS rfl (gS rfl (gS rfl (gS rfl (gS rfl (gS rfl (gS rfl (gS rfl (gS rfl (gS rfl (gS rfl (gS rfl (gS rfl (gS rfl (gS rfl (gS rfl (gS rfl (gS rfl (gS rfl (gS rfl (gS rfl (gS rfl (gS rfl (gS rfl (gS rfl (gS rfl (gS rfl (gS rfl (gS rfl (gS rfl (gS rfl (gS rfl (gS rfl (gS rfl (gS rfl (gS rfl (gS rfl (gS rfl (gS rfl (gS rfl (gS rfl (gS rfl (gS rfl (gS rfl (gS rfl (gS rfl (gS rfl (gS rfl (gS rfl (gS rfl (gS rfl (gS rfl (gS rfl (gS rfl (gS rfl (gS rfl (gS rfl (gS rfl (gS rfl (gS rfl (gS rfl (gS rfl (gS rfl (gS rfl (gS rfl (gS rfl (gS rfl (gS rfl (gS rfl (gS rfl (gS rfl (gS rfl (gS rfl (gS rfl (gS rfl (gS rfl (gS rfl (gS rfl (gS rfl (gS rfl (gS rfl (gS rfl (gS rfl (gS rfl (gS rfl (gS rfl (gS rfl (gS rfl (gS rfl (gS rfl (gS rfl (gS rfl (gS rfl (gS rfl (gS rfl (gS rfl (gS rfl (gS rfl (gS rfl (gS rfl (gS rfl (gS rfl (gS rfl (gS rfl (gS rfl (gS rfl (gS rfl (gS rfl (gS rfl (gS rfl (gS rfl (gS rfl (gS rfl g0)))))))))))))))))))))))))))))))))))))))))))))))))))))))))))))))))))))))))))))))))))))))))))))))))))))))))))))))))))))))))))))))))))))))))))))) rfl)) ?_
  refine l_step (y_moveV (et (gS rfl (gS rfl (gS rfl (gS rfl (gS rfl (gS rfl (gS rfl (gS rfl (gS rfl (gS rfl (gS rfl (gS rfl (gS rfl (gS rfl (gS rfl (gS rfl (gS rfl (gS rfl (gS rfl (gS rfl (gS rfl (gS rfl (gS rfl (gS rfl (gS rfl (gS rfl (gS rfl (gS rfl (gS rfl (gS rfl (gS rfl (gS rfl (gS rfl (gS rfl (gS rfl (gS rfl (gS rfl (gS rfl (gS rfl (gS rfl (gS rfl (gS rfl (gS rfl (gS rfl (gS rfl (gS rfl (gS rfl (gS rfl (gS rfl (gS rfl (gS rfl (gS rfl (gS rfl (gS rfl (gS rfl (gS rfl (gS rfl (gS rfl (gS rfl (gS rfl (gS rfl (gS rfl (gS rfl (gS rfl (gS rfl (gS rfl (gS rfl (gS rfl (gS rfl (gS rfl (gS rfl (gS rfl (gS rfl (gS rfl (gS rfl (gS rfl (gS rfl (gS rfl (gS rfl (gS rfl (gS rfl (gS rfl (gS rfl (gS rfl (gS rfl (gS rfl (gS rfl (gS rfl (gS rfl (gS rfl (gS rfl (gS rfl (gS rfl (gS rfl (gS rfl (gS rfl (gS rfl (gS rfl (gS rfl (gS rfl (gS rfl (gS rfl (gS rfl (gS rfl (gS rfl (gS rfl (gS rfl (gS rfl (gS rfl (gS rfl (gS rfl (gS rfl (gS rfl (gS rfl (gS rfl (gS rfl (gS rfl (gS rfl (gS rfl (gS rfl (gS rfl (gS rfl (gS rfl (gS rfl (gS rfl (gS rfl (gS rfl (gS rfl (gS rfl (gS rfl (gS rfl (gS rfl (gS rfl (gS rfl (gS rfl (gS rfl (gS rfl (gS rfl (gS rfl (gS rfl (gS rfl (gS rfl g0)))))))))))))))))))))))))))))))))))))))))))))))))))))))))))))))))))))))))))))))))))))))))))))))))))))))))))))))))))))))))))))))))))))))))))))) rfl)) ?_
  refine l_step (y_not64 (et g0 rfl) ?_) ?_
  first | exact limb_lt _ _ | omega
  refine l_step (y_moveV (et (gS rfl (gS rfl (gS rfl (gS rfl (gS rfl (gS rfl (gS rfl (gS rfl (gS rfl (gS rfl (gS rfl (gS rfl (gS rfl (gS rfl (gS rfl (gS rfl (gS rfl (gS rfl (gS rfl (gS rfl (gS rfl (gS rfl (gS rfl (gS rfl (gS rfl (gS rfl (gS rfl (gS rfl (gS rfl (gS rfl (gS rfl (gS rfl (gS rfl (gS rfl (gS rfl (gS rfl (gS rfl (gS rfl (gS rfl (gS rfl (gS rfl (gS rfl (gS rfl (gS rfl (gS rfl (gS rfl (gS rfl (gS rfl (gS rfl (gS rfl (gS rfl (gS rfl (gS rfl (gS rfl (gS rfl (gS rfl (gS rfl (gS rfl (gS rfl (gS rfl (gS rfl (gS rfl (gS rfl (gS rfl (gS rfl (gS rfl (gS rfl (gS rfl (gS rfl (gS rfl (gS rfl (gS rfl (gS rfl (gS rfl (gS rfl (gS rfl (gS rfl (gS rfl (gS rfl (gS rfl (gS rfl (gS rfl (gS rfl (gS rfl (gS rfl (gS rfl (gS rfl (gS rfl (gS rfl (gS rfl (gS rfl (gS rfl (gS rfl (gS rfl (gS rfl (gS rfl (gS rfl (gS rfl (gS rfl (gS rfl (gS rfl (gS rfl (gS rfl (gS rfl (gS rfl (gS rfl (gS rfl (gS rfl (gS rfl (gS rfl (gS rfl (gS rfl (gS rfl (gS rfl (gS rfl (gS rfl (gS rfl (gS rfl (gS rfl (gS rfl (gS rfl (gS rfl (gS rfl (gS rfl (gS rfl (gS rfl (gS rfl (gS rfl (gS rfl (gS rfl (gS rfl (gS rfl (gS rfl (gS rfl (gS rfl (gS rfl (gS rfl (gS rfl (gS rfl (gS rfl (gS rfl (gS rfl (gS rfl g0))))))))))))))))))))))))))))))))))))))))))))))))))))))))))))))))))))))))))))))))))))))))))))))))))))))))))))))))))))))))))))))))))))))))))))))) rfl)) ?_
  refine l_step (y_and uk64 (et (gS rfl g0) rfl) (et g0 rfl) ?_ ?_) ?_
  repeat' first | assumption | refine rotl_lt64 ?_ (by decide) | refine x64 ?_ ?_ | refine and64 ?_ | exact not64 _
  repeat' first | assumption | refine rotl_lt64 ?_ (by decide) | refine x64 ?_ ?_ | refine and64 ?_ | exact not64 _
  refine l_step (y_xor uk64 (et (gS rfl (gS rfl (gS rfl (gS rfl g0)))) rfl) (et g0 rfl) ?_ ?_) ?_
  repeat' first | assumption | refine rotl_lt64 ?_ (by decide) | refine x64 ?_ ?_ | refine and64 ?_ | exact not64 _
  repeat' first | assumption | refine rotl_lt64 ?_ (by decide) | refine x64 ?_ ?_ | refine and64 ?_ | exact not64 _
  refine l_step (y_nil (et (gS rfl (gS rfl (gS rfl (gS rfl (gS rfl (gS rfl g0)))))) rfl)) ?_
  refine l_step (y_idxAC 5 5 Hvaa.underlying318 sz_26 (et g0 rfl) rfl rfl rfl) ?_
  refine l_effN (e_store sz_26 (et g0 rfl) (cellsV (et (gS rfl (gS rfl g0)) rfl) rfl) rfl (by intro v hv; simp at hv; subst hv; rfl) kA (by exact Nat.le_of_ble_eq_true rfl)) (fun v81 w81 h81 => ?_)
  obtain ⟨rfl, x81⟩ := h81
  replace kA := x81.blk
  replace U := U.st x81 (.inl (by first | rfl | (simp; done)))
  replace kA : Blk w81 b (uL [s0 ^^^ ((18446744073709551615 - s1) &&& s2), s1 ^^^ ((18446744073709551615 - s2) &&& s3), s2 ^^^ ((18446744073709551615 - s3) &&& s4), s3 ^^^ ((18446744073709551615 - s4) &&& s0), s4 ^^^ ((18446744073709551615 - s0) &&& s1), t0 ^^^ ((18446744073709551615 - t1) &&& t2), a6, a7, a8, a9, a10, a11, a12, a13, a14, a15, a16, a17, a18, a19, a20, a21, a22, a23, a24]).toArray := kA
  refine l_nil ?_
  refine hK80 _ _ ?_
  refine c_seq (fun K82 hK82 => ?_)
  refine c_region ?_
  refine l_step (y_moveV (et (gS rfl (gS rfl (gS rfl (gS rfl (gS rfl (gS rfl (gS rfl (gS rfl (gS rfl (gS rfl (gS rfl (gS rfl (gS rfl (gS rfl (gS rfl (gS rfl (gS rfl (gS rfl (gS rfl (gS rfl (gS rfl (gS rfl (gS rfl (gS rfl (gS rfl (gS rfl (gS rfl (gS rfl (gS rfl (gS rfl (gS rfl (gS rfl (gS rfl (gS rfl (gS rfl (gS rfl (gS rfl (gS rfl (gS rfl (gS rfl (gS rfl (gS rfl (gS rfl (gS rfl (gS rfl (gS rfl (gS rfl (gS rfl (gS rfl (gS rfl (gS rfl (gS rfl (gS rfl (gS rfl (gS rfl (gS rfl (gS rfl (gS rfl (gS rfl (gS rfl (gS rfl (gS rfl (gS rfl (gS rfl (gS rfl (gS rfl (gS rfl (gS rfl (gS rfl (gS rfl (gS rfl (gS rfl (gS rfl (gS rfl (gS rfl (gS rfl (gS rfl (gS rfl (gS rfl (gS rfl (gS rfl (gS rfl (gS rfl (gS rfl (gS rfl (gS rfl (gS rfl (gS rfl (gS rfl (gS rfl (gS rfl (gS rfl (gS rfl (gS rfl (gS rfl (gS rfl (gS rfl (gS rfl (gS rfl (gS rfl (gS rfl (gS rfl (gS rfl (gS rfl (gS rfl (gS rfl (gS rfl (gS rfl (gS rfl (gS rfl (gS rfl (gS rfl (gS rfl (gS rfl (gS rfl (gS rfl (gS rfl (gS rfl (gS rfl (gS rfl (gS rfl (gS rfl (gS rfl (gS rfl (gS rfl (gS rfl (gS rfl (gS rfl (gS rfl (gS rfl (gS rfl (gS rfl (gS rfl (gS rfl (gS rfl (gS rfl (gS rfl (gS rfl (gS rfl (gS rfl (gS rfl (gS rfl (gS rfl (gS rfl (gS rfl (gS rfl (gS rfl (gS rfl (gS rfl (gS rfl (gS rfl (gS rfl (gS rfl (gS rfl (gS rfl (gS rfl (gS rfl (gS rfl (gS rfl (gS rfl (gS rfl g0))))))))))))))))))))))))))))))))))))))))))))))))))))))))))))))))))))))))))))))))))))))))))))))))))))))))))))))))))))))))))))))))))))))))))))))))))))))))))))))))) rfl)) ?_
  refine l_step (y_moveV (et (gS rfl (gS rfl (gS rfl (gS rfl (gS rfl (gS rfl (gS rfl (gS rfl (gS rfl (gS rfl (gS rfl (gS rfl (gS rfl (gS rfl (gS rfl (gS rfl (gS rfl (gS rfl (gS rfl (gS rfl (gS rfl (gS rfl (gS rfl (gS rfl (gS rfl (gS rfl (gS rfl (gS rfl (gS rfl (gS rfl (gS rfl (gS rfl (gS rfl (gS rfl (gS rfl (gS rfl (gS rfl (gS rfl (gS rfl (gS rfl (gS rfl (gS rfl (gS rfl (gS rfl (gS rfl (gS rfl (gS rfl (gS rfl (gS rfl (gS rfl (gS rfl (gS rfl (gS rfl (gS rfl (gS rfl (gS rfl (gS rfl (gS rfl (gS rfl (gS rfl (gS rfl (gS rfl (gS rfl (gS rfl (gS rfl (gS rfl (gS rfl (gS rfl (gS rfl (gS rfl (gS rfl (gS rfl (gS rfl (gS rfl (gS rfl (gS rfl (gS rfl (gS rfl (gS rfl (gS rfl (gS rfl (gS rfl (gS rfl (gS rfl (gS rfl (gS rfl (gS rfl (gS rfl (gS rfl (gS rfl (gS rfl (gS rfl (gS rfl (gS rfl (gS rfl (gS rfl (gS rfl (gS rfl (gS rfl (gS rfl (gS rfl (gS rfl (gS rfl (gS rfl (gS rfl (gS rfl (gS rfl (gS rfl (gS rfl (gS rfl (gS rfl (gS rfl (gS rfl (gS rfl (gS rfl (gS rfl (gS rfl (gS rfl (gS rfl (gS rfl (gS rfl (gS rfl (gS rfl (gS rfl (gS rfl (gS rfl (gS rfl (gS rfl (gS rfl (gS rfl (gS rfl (gS rfl (gS rfl (gS rfl (gS rfl (gS rfl (gS rfl (gS rfl (gS rfl (gS rfl (gS rfl (gS rfl (gS rfl (gS rfl (gS rfl (gS rfl (gS rfl (gS rfl (gS rfl (gS rfl g0)))))))))))))))))))))))))))))))))))))))))))))))))))))))))))))))))))))))))))))))))))))))))))))))))))))))))))))))))))))))))))))))))))))))))))))))))))))) rfl)) ?_
  refine l_step (y_moveV (et (gS rfl (gS rfl (gS rfl (gS rfl (gS rfl (gS rfl (gS rfl (gS rfl (gS rfl (gS rfl (gS rfl (gS rfl (gS rfl (gS rfl (gS rfl (gS rfl (gS rfl (gS rfl (gS rfl (gS rfl (gS rfl (gS rfl (gS rfl (gS rfl (gS rfl (gS rfl (gS rfl (gS rfl (gS rfl (gS rfl (gS rfl (gS rfl (gS rfl (gS rfl (gS rfl (gS rfl (gS rfl (gS rfl (gS rfl (gS rfl (gS rfl (gS rfl (gS rfl (gS rfl (gS rfl (gS rfl (gS rfl (gS rfl (gS rfl (gS rfl (gS rfl (gS rfl (gS rfl (gS rfl (gS rfl (gS rfl (gS rfl (gS rfl (gS rfl (gS rfl (gS rfl (gS rfl (gS rfl (gS rfl (gS rfl (gS rfl (gS rfl (gS rfl (gS rfl (gS rfl (gS rfl (gS rfl (gS rfl (gS rfl (gS rfl (gS rfl (gS rfl (gS rfl (gS rfl (gS rfl (gS rfl (gS rfl (gS rfl (gS rfl (gS rfl (gS rfl (gS rfl (gS rfl (gS rfl (gS rfl (gS rfl (gS rfl (gS rfl (gS rfl (gS rfl (gS rfl (gS rfl (gS rfl (gS rfl (gS rfl (gS rfl (gS rfl (gS rfl (gS rfl (gS rfl (gS rfl (gS rfl (gS rfl (gS rfl (gS rfl (gS rfl (gS rfl (gS rfl (gS rfl (gS rfl (gS rfl (gS rfl (gS rfl (gS rfl (gS rfl (gS rfl (gS rfl (gS rfl (gS rfl (gS rfl (gS rfl (gS rfl (gS rfl (gS rfl (gS rfl (gS rfl (gS rfl (gS rfl (gS rfl (gS rfl (gS rfl (gS rfl (gS rfl (gS rfl (gS rfl (gS rfl (gS rfl (gS rfl (gS rfl (gS rfl (gS rfl (gS rfl (gS rfl (gS rfl (gS rfl g0)))))))))))))))))))))))))))))))))))))))))))))))))))))))))))))))))))))))))))))))))))))))))))))))))))))))))))))))))))))))))))))))))))))))))))))))))))))) rfl)) ?_
  refine l_step (y_not64 (et g0 rfl) ?_) ?_
  first | exact limb_lt _ _ | omega
  refine l_step (y_moveV (et (gS rfl (gS rfl (gS rfl (gS rfl (gS rfl (gS rfl (gS rfl (gS rfl (gS rfl (gS rfl (gS rfl (gS rfl (gS rfl (gS rfl (gS rfl (gS rfl (gS rfl (gS rfl (gS rfl (gS rfl (gS rfl (gS rfl (gS rfl (gS rfl (gS rfl (gS rfl (gS rfl (gS rfl (gS rfl (gS rfl (gS rfl (gS rfl (gS rfl (gS rfl (gS rfl (gS rfl (gS rfl (gS rfl (gS rfl (gS rfl (gS rfl (gS rfl (gS rfl (gS rfl (gS rfl (gS rfl (gS rfl (gS rfl (gS rfl (gS rfl (gS rfl (gS rfl (gS rfl (gS rfl (gS rfl (gS rfl (gS rfl (gS rfl (gS rfl (gS rfl (gS rfl (gS rfl (gS rfl (gS rfl (gS rfl (gS rfl (gS rfl (gS rfl (gS rfl (gS rfl (gS rfl (gS rfl (gS rfl (gS rfl (gS rfl (gS rfl (gS rfl (gS rfl (gS rfl (gS rfl (gS rfl (gS rfl (gS rfl (gS rfl (gS rfl (gS rfl (gS rfl (gS rfl (gS rfl (gS rfl (gS rfl (gS rfl (gS rfl (gS rfl (gS rfl (gS rfl (gS rfl (gS rfl (gS rfl (gS rfl (gS rfl (gS rfl (gS rfl (gS rfl (gS rfl (gS rfl (gS rfl (gS rfl (gS rfl (gS rfl (gS rfl (gS rfl (gS rfl (gS rfl (gS rfl (gS rfl (gS rfl (gS rfl (gS rfl (gS rfl (gS rfl (gS rfl (gS rfl (gS rfl (gS rfl (gS rfl (gS rfl (gS rfl (gS rfl (gS rfl (gS rfl (gS rfl (gS rfl (gS rfl (gS rfl (gS rfl (gS rfl (gS rfl (gS rfl (gS rfl (gS rfl (gS rfl (gS rfl (gS rfl (gS rfl (gS rfl (gS rfl (gS rfl (gS rfl (gS rfl (gS rfl g0))))))))))))))))))))))))))))))))))))))))))))))))))))))))))))))))))))))))))))))))))))))))))))))))))))))))))))))))))))))))))))))))))))))))))))))))))))))) rfl)) ?_
  refine l_step (y_and uk64 (et (gS rfl g0) rfl) (et g0 rfl) ?_ ?_) ?_
  repeat' first | assumption | refine rotl_lt64 ?_ (by decide) | refine x64 ?_ ?_ | refine and64 ?_ | exact not64 _
  repeat' first | assumption | refine rotl_lt64 ?_ (by decide) | refine x64 ?_ ?_ | refine and64 ?_ | exact not64 _
  refine l_step (y_xor uk64 (et (gS rfl (gS rfl (gS rfl (gS rfl g0)))) rfl) (et g0 rfl) ?_ ?_) ?_
  repeat' first | assumption | refine rotl_lt64 ?_ (by decide) | refine x64 ?_ ?_ | refine and64 ?_ | exact not64 _
  repeat' first | assumption | refine rotl_lt64 ?_ (by decide) | refine x64 ?_ ?_ | refine and64 ?_ | exact not64 _
  refine l_step (y_nil (et (gS rfl (gS rfl (gS rfl (gS rfl (gS rfl (gS rfl g0)))))) rfl)) ?_
  refine l_step (y_idxAC 6 6 Hvaa.underlying318 sz_26 (et g0 rfl) rfl rfl rfl) ?_
  refine l_effN (e_store sz_26 (et g0 rfl) (cellsV (et (gS rfl (gS rfl g0)) rfl) rfl) rfl (by intro v hv; simp at hv; subst hv; rfl) kA (by exact Nat.le_of_ble_eq_true rfl)) (fun v83 w83 h83 => ?_)
  obtain ⟨rfl, x83⟩ := h83
  replace kA := x83.blk
  replace U := U.st x83 (.inl (by first | rfl | (simp; done)))
  replace kA : Blk w83 b (uL [s0 ^^^ ((18446744073709551615 - s1) &&& s2), s1 ^^^ ((18446744073709551615 - s2) &&& s3), s2 ^^^ ((18446744073709551615 - s3) &&& s4), s3 ^^^ ((18446744073709551615 - s4) &&& s0), s4 ^^^ ((18446744073709551615 - s0) &&& s1), t0 ^^^ ((18446744073709551615 - t1) &&& t2), t1 ^^^ ((18446744073709551615 - t2) &&& t3), a7, a8, a9, a10, a11, a12, a13, a14, a15, a16, a17, a18, a19, a20, a21, a22, a23, a24]).toArray := kA
  refine l_nil ?_
  refine hK82 _ _ ?_
  refine c_seq (fun K84 hK84 => ?_)
  refine c_region ?_
  refine l_step (y_moveV (et (gS rfl (gS rfl (gS rfl (gS rfl (gS rfl (gS rfl (gS rfl (gS rfl (gS rfl (gS rfl (gS rfl (gS rfl (gS rfl (gS rfl (gS rfl (gS rfl (gS rfl (gS rfl (gS rfl (gS rfl (gS rfl (gS rfl (gS rfl (gS rfl (gS rfl (gS rfl (gS rfl (gS rfl (gS rfl (gS rfl (gS rfl (gS rfl (gS rfl (gS rfl (gS rfl (gS rfl (gS rfl (gS rfl (gS rfl (gS rfl (gS rfl (gS rfl (gS rfl (gS rfl (gS rfl (gS rfl (gS rfl (gS rfl (gS rfl (gS rfl (gS rfl (gS rfl (gS rfl (gS rfl (gS rfl (gS rfl (gS rfl (gS rfl (gS rfl (gS rfl (gS rfl (gS rfl (gS rfl (gS rfl (gS rfl (gS rfl (gS rfl (gS rfl (gS rfl (gS rfl (gS rfl (gS rfl (gS rfl (gS rfl (gS rfl (gS rfl (gS rfl (gS rfl (gS rfl (gS rfl (gS rfl (gS rfl (gS rfl (gS rfl (gS rfl (gS rfl (gS rfl (gS rfl (gS rfl (gS rfl (gS rfl (gS rfl (gS rfl (gS rfl (gS rfl (gS rfl (gS rfl (gS rfl (gS rfl (gS rfl (gS rfl (gS rfl (gS rfl (gS rfl (gS rfl (gS rfl (gS rfl (gS rfl (gS rfl (gS rfl (gS rfl (gS rfl (gS rfl (gS rfl (gS rfl (gS rfl (gS rfl (gS rfl (gS rfl (gS rfl (gS rfl (gS rfl (gS rfl (gS rfl (gS rfl (gS rfl (gS rfl (gS rfl (gS rfl (gS rfl (gS rfl (gS rfl (gS rfl (gS rfl (gS rfl (gS rfl (gS rfl (gS rfl (gS rfl (gS rfl (gS rfl (gS rfl (gS rfl (gS rfl (gS rfl (gS rfl (gS rfl (gS rfl (gS rfl (gS rfl (gS rfl (gS rfl (gS rfl (gS rfl (gS rfl (gS rfl (gS rfl (gS rfl (gS rfl (gS rfl (gS rfl (gS rfl (gS rfl (gS rfl (gS rfl (gS rfl (gS rfl (gS rfl (gS rfl (gS rfl g0)))))))))))))))))))))))))))))))))))))))))))))))))))))))))))))))))))))))))))))))))))))))))))))))))))))))))))))))))))))))))))))))))))))))))))))))))))))))))))))))))))))))))) rfl)) ?_
  refine l_step (y_moveV (et (gS rfl (gS rfl (gS rfl (gS rfl (gS rfl (gS rfl (gS rfl (gS rfl (gS rfl (gS rfl (gS rfl (gS rfl (gS rfl (gS rfl (gS rfl (gS rfl (gS rfl (gS rfl (gS rfl (gS rfl (gS rfl (gS rfl (gS rfl (gS rfl (gS rfl (gS rfl (gS rfl (gS rfl (gS rfl (gS rfl (gS rfl (gS rfl (gS rfl (gS rfl (gS rfl (gS rfl (gS rfl (gS rfl (gS rfl (gS rfl (gS rfl (gS rfl (gS rfl (gS rfl (gS rfl (gS rfl (gS rfl (gS rfl (gS rfl (gS rfl (gS rfl (gS rfl (gS rfl (gS rfl (gS rfl (gS rfl (gS rfl (gS rfl (gS rfl (gS rfl (gS rfl (gS rfl (gS rfl (gS rfl (gS rfl (gS rfl (gS rfl (gS rfl (gS rfl (gS rfl (gS rfl (gS rfl (gS rfl (gS rfl (gS rfl (gS rfl (gS rfl (gS rfl (gS rfl (gS rfl (gS rfl (gS rfl (gS rfl (gS rfl (gS rfl (gS rfl (gS rfl (gS rfl (gS rfl (gS rfl (gS rfl (gS rfl (gS rfl (gS rfl (gS rfl (gS rfl (gS rfl (gS rfl (gS rfl (gS rfl (gS rfl (gS rfl (gS rfl (gS rfl (gS rfl (gS rfl (gS rfl (gS rfl (gS rfl (gS rfl (gS rfl (gS rfl (gS rfl (gS rfl (gS rfl (gS rfl (gS rfl (gS rfl (gS rfl (gS rfl (gS rfl (gS rfl (gS rfl (gS rfl (gS rfl (gS rfl (gS rfl (gS rfl (gS rfl (gS rfl (gS rfl (gS rfl (gS rfl (gS rfl (gS rfl (gS rfl (gS rfl (gS rfl (gS rfl (gS rfl (gS rfl (gS rfl (gS rfl (gS rfl (gS rfl (gS rfl (gS rfl (gS rfl (gS rfl (gS rfl (gS rfl (gS rfl (gS rfl (gS rfl (gS rfl (gS rfl (gS rfl (gS rfl g0)))))))))))))))))))))))))))))))))))))))))))))))))))))))))))))))))))))))))))))))))))))))))))))))))))))))))))))))))))))))))))))))))))))))))))))))))))))))))))))) rfl)) ?_
  refine l_step (y_moveV (et (gS rfl (gS rfl (gS rfl (gS rfl (gS rfl (gS rfl (gS rfl (gS rfl (gS rfl (gS rfl (gS rfl (gS rfl (gS rfl (gS rfl (gS rfl (gS rfl (gS rfl (gS rfl (gS rfl (gS rfl (gS rfl (gS rfl (gS rfl (gS rfl (gS rfl (gS rfl (gS rfl (gS rfl (gS rfl (gS rfl (gS rfl (gS rfl (gS rfl (gS rfl (gS rfl (gS rfl (gS rfl (gS rfl (gS rfl (gS rfl (gS rfl (gS rfl (gS rfl (gS rfl (gS rfl (gS rfl (gS rfl (gS rfl (gS rfl (gS rfl (gS rfl (gS rfl (gS rfl (gS rfl (gS rfl (gS rfl (gS rfl (gS rfl (gS rfl (gS rfl (gS rfl (gS rfl (gS rfl (gS rfl (gS rfl (gS rfl (gS rfl (gS rfl (gS rfl (gS rfl (gS rfl (gS rfl (gS rfl (gS rfl (gS rfl (gS rfl (gS rfl (gS rfl (gS rfl (gS rfl (gS rfl (gS rfl (gS rfl (gS rfl (gS rfl (gS rfl (gS rfl (gS rfl (gS rfl (gS rfl (gS rfl (gS rfl (gS rfl (gS rfl (gS rfl (gS rfl (gS rfl (gS rfl (gS rfl (gS rfl (gS rfl (gS rfl (gS rfl (gS rfl (gS rfl (gS rfl (gS rfl (gS rfl (gS rfl (gS rfl (gS rfl (gS rfl (gS rfl (gS rfl (gS rfl (gS rfl (gS rfl (gS rfl (gS rfl (gS rfl (gS rfl (gS rfl (gS rfl (gS rfl (gS rfl (gS rfl (gS rfl (gS rfl (gS rfl (gS rfl (gS rfl (gS rfl (gS rfl (gS rfl (gS rfl (gS rfl (gS rfl (gS rfl (gS rfl (gS rfl (gS rfl (gS rfl (gS rfl (gS rfl (gS rfl (gS rfl (gS rfl (gS rfl (gS rfl (gS rfl (gS rfl (gS rfl (gS rfl (gS rfl (gS rfl (gS rfl (gS rfl (gS rfl g0)))))))))))))))))))))))))))))))))))))))))))))))))))))))))))))))))))))))))))))))))))))))))))))))))))))))))))))))))))))))))))))))))))))))))))))))))))))))))))))) rfl)) ?_
  refine l_step (y_not64 (et g0 rfl) ?_) ?_
  first | exact limb_lt _ _ | omega
  refine l_step (y_moveV (et (gS rfl (gS rfl (gS rfl (gS rfl (gS rfl (gS rfl (gS rfl (gS rfl (gS rfl (gS rfl (gS rfl (gS rfl (gS rfl (gS rfl (gS rfl (gS rfl (gS rfl (gS rfl (gS rfl (gS rfl (gS rfl (gS rfl (gS rfl (gS rfl (gS rfl (gS rfl (gS rfl (gS rfl (gS rfl (gS rfl (gS rfl (gS rfl (gS rfl (gS rfl (gS rfl (gS rfl (gS rfl (gS rfl (gS rfl (gS rfl (gS rfl (gS rfl (gS rfl (gS rfl (gS rfl (gS rfl (gS rfl (gS rfl (gS rfl (gS rfl (gS rfl (gS rfl (gS rfl (gS rfl (gS rfl (gS rfl (gS rfl (gS rfl (gS rfl (gS rfl (gS rfl (gS rfl (gS rfl (gS rfl (gS rfl (gS rfl (gS rfl (gS rfl (gS rfl (gS rfl (gS rfl (gS rfl (gS rfl (gS rfl (gS rfl (gS rfl (gS rfl (gS rfl (gS rfl (gS rfl (gS rfl (gS rfl (gS rfl (gS rfl (gS rfl (gS rfl (gS rfl (gS rfl (gS rfl (gS rfl (gS rfl (gS rfl (gS rfl (gS rfl (gS rfl (gS rfl (gS rfl (gS rfl (gS rfl (gS rfl (gS rfl (gS rfl (gS rfl (gS rfl (gS rfl (gS rfl (gS rfl (gS rfl (gS rfl (gS rfl (gS rfl (gS rfl (gS rfl (gS rfl (gS rfl (gS rfl (gS rfl (gS rfl (gS rfl (gS rfl (gS rfl (gS rfl (gS rfl (gS rfl (gS rfl (gS rfl (gS rfl (gS rfl (gS rfl (gS rfl (gS rfl (gS rfl (gS rfl (gS rfl (gS rfl (gS rfl (gS rfl (gS rfl (gS rfl (gS rfl (gS rfl (gS rfl (gS rfl (gS rfl (gS rfl (gS rfl (gS rfl (gS rfl (gS rfl (gS rfl (gS rfl (gS rfl (gS rfl (gS rfl (gS rfl (gS rfl (gS rfl (gS rfl (gS rfl g0))))))))))))))))))))))))))))))))))))))))))))))))))))))))))))))))))))))))))))))))))))))))))))))))))))))))))))))))))))))))))))))))))))))))))))))))))))))))))))))) rfl)) ?_
  refine l_step (y_and uk64 (et (gS rfl g0) rfl) (et g0 rfl) ?_ ?_) ?_
  repeat' first | assumption | refine rotl_lt64 ?_ (by decide) | refine x64 ?_ ?_ | refine and64 ?_ | exact not64 _
  repeat' first | assumption | refine rotl_lt64 ?_ (by decide) | refine x64 ?_ ?_ | refine and64 ?_ | exact not64 _
  refine l_step (y_xor uk64 (et (gS rfl (gS rfl (gS rfl (gS rfl g0)))) rfl) (et g0 rfl) ?_ ?_) ?_
  repeat' first | assumption | refine rotl_lt64 ?_ (by decide) | refine x64 ?_ ?_ | refine and64 ?_ | exact not64 _
  repeat' first | assumption | refine rotl_lt64 ?_ (by decide) | refine x64 ?_ ?_ | refine and64 ?_ | exact not64 _
  refine l_step (y_nil (et (gS rfl (gS rfl (gS rfl (gS rfl (gS rfl (gS rfl g0)))))) rfl)) ?_
  refine l_step (y_idxAC 7 7 Hvaa.underlying318 sz_26 (et g0 rfl) rfl rfl rfl) ?_
  refine l_effN (e_store sz_26 (et g0 rfl) (cellsV (et (gS rfl (gS rfl g0)) rfl) rfl) rfl (by intro v hv; simp at hv; subst hv; rfl) kA (by exact Nat.le_of_ble_eq_true rfl)) (fun v85 w85 h85 => ?_)
  obtain ⟨rfl, x85⟩ := h85
  replace kA := x85.blk
  replace U := U.st x85 (.inl (by first | rfl | (simp; done)))
  replace kA : Blk w85 b (uL [s0 ^^^ ((18446744073709551615 - s1) &&& s2), s1 ^^^ ((18446744073709551615 - s2) &&& s3), s2 ^^^ ((18446744073709551615 - s3) &&& s4), s3 ^^^ ((18446744073709551615 - s4) &&& s0), s4 ^^^ ((18446744073709551615 - s0) &&& s1), t0 ^^^ ((18446744073709551615 - t1) &&& t2), t1 ^^^ ((18446744073709551615 - t2) &&& t3), t2 ^^^ ((18446744073709551615 - t3) &&& t4), a8, a9, a10, a11, a12, a13, a14, a15, a16, a17, a18, a19, a20, a21, a22, a23, a24]).toArray := kA
  refine l_nil ?_
  refine hK84 _ _ ?_
  refine fg20 0 17 18 20 21 22 23 24 25 26 27 28 29 30 31 32 33 34 35 36 (gS rfl (gS rfl (gS rfl (gS rfl (gS rfl (gS rfl (gS rfl (gS rfl (gS rfl (gS rfl (gS rfl (gS rfl (gS rfl (gS rfl (gS rfl (gS rfl (gS rfl (gS rfl (gS rfl (gS rfl (gS rfl (gS rfl (gS rfl (gS rfl (gS rfl (gS rfl (gS rfl (gS rfl (gS rfl (gS rfl (gS rfl (gS rfl (gS rfl (gS rfl (gS rfl (gS rfl (gS rfl (gS rfl (gS rfl (gS rfl (gS rfl (gS rfl (gS rfl (gS rfl (gS rfl (gS rfl (gS rfl (gS rfl (gS rfl (gS rfl (gS rfl (gS rfl (gS rfl (gS rfl (gS rfl (gS rfl (gS rfl (gS rfl (gS rfl (gS rfl (gS rfl (gS rfl (gS rfl (gS rfl (gS rfl (gS rfl (gS rfl (gS rfl (gS rfl (gS rfl (gS rfl (gS rfl (gS rfl (gS rfl (gS rfl (gS rfl (gS rfl (gS rfl (gS rfl (gS rfl (gS rfl (gS rfl (gS rfl (gS rfl (gS rfl (gS rfl (gS rfl (gS rfl (gS rfl (gS rfl (gS rfl (gS rfl (gS rfl (gS rfl (gS rfl (gS rfl (gS rfl (gS rfl (gS rfl (gS rfl (gS rfl (gS rfl (gS rfl (gS rfl (gS rfl (gS rfl (gS rfl (gS rfl (gS rfl (gS rfl (gS rfl (gS rfl (gS rfl (gS rfl (gS rfl (gS rfl (gS rfl (gS rfl (gS rfl (gS rfl (gS rfl (gS rfl (gS rfl (gS rfl (gS rfl (gS rfl (gS rfl (gS rfl (gS rfl (gS rfl (gS rfl (gS rfl (gS rfl (gS rfl (gS rfl (gS rfl (gS rfl (gS rfl (gS rfl (gS rfl (gS rfl (gS rfl (gS rfl (gS rfl (gS rfl (gS rfl (gS rfl (gS rfl (gS rfl (gS rfl (gS rfl (gS rfl (gS rfl (gS rfl (gS rfl (gS rfl (gS rfl (gS rfl (gS rfl (gS rfl (gS rfl (gS rfl (gS rfl (gS rfl (gS rfl (gS rfl (gS rfl (gS rfl (gS rfl (gS rfl (gS rfl (gS rfl (gS rfl (gS rfl (gS rfl (gS rfl (gS rfl (gS rfl (gS rfl g0))))))))))))))))))))))))))))))))))))))))))))))))))))))))))))))))))))))))))))))))))))))))))))))))))))))))))))))))))))))))))))))))))))))))))))))))))))))))))))))))))))))))))))))))))) (gS rfl (gS rfl (gS rfl (gS rfl (gS rfl (gS rfl (gS rfl (gS rfl (gS rfl (gS rfl (gS rfl (gS rfl (gS rfl (gS rfl (gS rfl (gS rfl (gS rfl (gS rfl (gS rfl (gS rfl (gS rfl (gS rfl (gS rfl (gS rfl (gS rfl (gS rfl (gS rfl (gS rfl (gS rfl (gS rfl (gS rfl (gS rfl (gS rfl (gS rfl (gS rfl (gS rfl (gS rfl (gS rfl (gS rfl (gS rfl (gS rfl (gS rfl (gS rfl (gS rfl (gS rfl (gS rfl (gS rfl (gS rfl (gS rfl (gS rfl (gS rfl (gS rfl (gS rfl (gS rfl (gS rfl (gS rfl (gS rfl (gS rfl (gS rfl (gS rfl (gS rfl (gS rfl (gS rfl (gS rfl (gS rfl (gS rfl (gS rfl (gS rfl (gS rfl (gS rfl (gS rfl (gS rfl (gS rfl (gS rfl (gS rfl (gS rfl (gS rfl (gS rfl (gS rfl (gS rfl (gS rfl (gS rfl (gS rfl (gS rfl (gS rfl (gS rfl (gS rfl (gS rfl (gS rfl (gS rfl (gS rfl (gS rfl (gS rfl (gS rfl (gS rfl (gS rfl (gS rfl (gS rfl (gS rfl (gS rfl (gS rfl (gS rfl (gS rfl (gS rfl (gS rfl (gS rfl (gS rfl (gS rfl (gS rfl (gS rfl (gS rfl (gS rfl (gS rfl (gS rfl (gS rfl (gS rfl (gS rfl (gS rfl (gS rfl (gS rfl (gS rfl (gS rfl (gS rfl (gS rfl (gS rfl (gS rfl (gS rfl (gS rfl (gS rfl (gS rfl (gS rfl (gS rfl (gS rfl (gS rfl (gS rfl (gS rfl (gS rfl (gS rfl (gS rfl (gS rfl (gS rfl (gS rfl (gS rfl (gS rfl (gS rfl (gS rfl (gS rfl (gS rfl (gS rfl (gS rfl (gS rfl (gS rfl (gS rfl (gS rfl (gS rfl (gS rfl (gS rfl (gS rfl (gS rfl (gS rfl (gS rfl (gS rfl (gS rfl (gS rfl (gS rfl (gS rfl (gS rfl (gS rfl g0)))))))))))))))))))))))))))))))))))))))))))))))))))))))))))))))))))))))))))))))))))))))))))))))))))))))))))))))))))))))))))))))))))))))))))))))))))))))))))))))))))))))) (gS rfl (gS rfl (gS rfl (gS rfl (gS rfl (gS rfl (gS rfl (gS rfl (gS rfl (gS rfl (gS rfl (gS rfl (gS rfl (gS rfl (gS rfl (gS rfl (gS rfl (gS rfl (gS rfl (gS rfl (gS rfl (gS rfl (gS rfl (gS rfl (gS rfl (gS rfl (gS rfl (gS rfl (gS rfl (gS rfl (gS rfl (gS rfl (gS rfl (gS rfl (gS rfl (gS rfl (gS rfl (gS rfl (gS rfl (gS rfl (gS rfl (gS rfl (gS rfl (gS rfl (gS rfl (gS rfl (gS rfl (gS rfl (gS rfl (gS rfl (gS rfl (gS rfl (gS rfl (gS rfl (gS rfl (gS rfl (gS rfl (gS rfl (gS rfl (gS rfl (gS rfl (gS rfl (gS rfl (gS rfl (gS rfl (gS rfl (gS rfl (gS rfl (gS rfl (gS rfl (gS rfl (gS rfl (gS rfl (gS rfl (gS rfl (gS rfl (gS rfl (gS rfl (gS rfl (gS rfl (gS rfl (gS rfl (gS rfl (gS rfl (gS rfl (gS rfl (gS rfl (gS rfl (gS rfl (gS rfl (gS rfl (gS rfl (gS rfl (gS rfl (gS rfl (gS rfl (gS rfl (gS rfl (gS rfl (gS rfl (gS rfl (gS rfl (gS rfl (gS rfl (gS rfl (gS rfl (gS rfl (gS rfl (gS rfl (gS rfl (gS rfl (gS rfl (gS rfl (gS rfl (gS rfl (gS rfl (gS rfl (gS rfl (gS rfl (gS rfl (gS rfl (gS rfl (gS rfl (gS rfl (gS rfl (gS rfl (gS rfl (gS rfl (gS rfl (gS rfl (gS rfl (gS rfl (gS rfl (gS rfl (gS rfl (gS rfl (gS rfl (gS rfl (gS rfl (gS rfl (gS rfl (gS rfl (gS rfl (gS rfl (gS rfl (gS rfl (gS rfl (gS rfl (gS rfl (gS rfl (gS rfl (gS rfl (gS rfl (gS rfl (gS rfl (gS rfl (gS rfl (gS rfl (gS rfl (gS rfl (gS rfl (gS rfl (gS rfl (gS rfl (gS rfl (gS rfl (gS rfl g0))))))))))))))))))))))))))))))))))))))))))))))))))))))))))))))))))))))))))))))))))))))))))))))))))))))))))))))))))))))))))))))))))))))))))))))))))))))))))))))))))))))) (gS rfl (gS rfl (gS rfl (gS rfl (gS rfl (gS rfl (gS rfl (gS rfl (gS rfl (gS rfl (gS rfl (gS rfl (gS rfl (gS rfl (gS rfl (gS rfl (gS rfl (gS rfl (gS rfl (gS rfl (gS rfl (gS rfl (gS rfl (gS rfl (gS rfl (gS rfl (gS rfl (gS rfl (gS rfl (gS rfl (gS rfl (gS rfl (gS rfl (gS rfl (gS rfl (gS rfl (gS rfl (gS rfl (gS rfl (gS rfl (gS rfl (gS rfl (gS rfl (gS rfl (gS rfl (gS rfl (gS rfl (gS rfl (gS rfl (gS rfl (gS rfl (gS rfl (gS rfl (gS rfl (gS rfl (gS rfl (gS rfl (gS rfl (gS rfl (gS rfl (gS rfl (gS rfl (gS rfl (gS rfl (gS rfl (gS rfl (gS rfl (gS rfl (gS rfl (gS rfl (gS rfl (gS rfl (gS rfl (gS rfl (gS rfl (gS rfl (gS rfl (gS rfl (gS rfl (gS rfl (gS rfl (gS rfl (gS rfl (gS rfl (gS rfl (gS rfl (gS rfl (gS rfl (gS rfl (gS rfl (gS rfl (gS rfl (gS rfl (gS rfl (gS rfl (gS rfl (gS rfl (gS rfl (gS rfl (gS rfl (gS rfl (gS rfl (gS rfl (gS rfl (gS rfl (gS rfl (gS rfl (gS rfl (gS rfl (gS rfl (gS rfl (gS rfl (gS rfl (gS rfl (gS rfl (gS rfl (gS rfl (gS rfl (gS rfl (gS rfl (gS rfl (gS rfl (gS rfl (gS rfl (gS rfl (gS rfl (gS rfl (gS rfl (gS rfl (gS rfl (gS rfl (gS rfl (gS rfl (gS rfl (gS rfl (gS rfl (gS rfl (gS rfl (gS rfl (gS rfl (gS rfl (gS rfl (gS rfl (gS rfl (gS rfl (gS rfl (gS rfl (gS rfl (gS rfl (gS rfl (gS rfl (gS rfl (gS rfl (gS rfl (gS rfl (gS rfl (gS rfl (gS rfl (gS rfl (gS rfl (gS rfl (gS rfl (gS rfl (gS rfl (gS rfl g0))))))))))))))))))))))))))))))))))))))))))))))))))))))))))))))))))))))))))))))))))))))))))))))))))))))))))))))))))))))))))))))))))))))))))))))))))))))))))))))))))))) (gS rfl (gS rfl (gS rfl (gS rfl (gS rfl (gS rfl (gS rfl (gS rfl (gS rfl (gS rfl (gS rfl (gS rfl (gS rfl (gS rfl (gS rfl (gS rfl (gS rfl (gS rfl (gS rfl (gS rfl (gS rfl (gS rfl (gS rfl (gS rfl (gS rfl (gS rfl (gS rfl (gS rfl (gS rfl (gS rfl (gS rfl (gS rfl (gS rfl (gS rfl (gS rfl (gS rfl (gS rfl (gS rfl (gS rfl (gS rfl (gS rfl (gS rfl (gS rfl (gS rfl (gS rfl (gS rfl (gS rfl (gS rfl (gS rfl (gS rfl (gS rfl (gS rfl (gS rfl (gS rfl (gS rfl (gS rfl (gS rfl (gS rfl (gS rfl (gS rfl (gS rfl (gS rfl (gS rfl (gS rfl (gS rfl (gS rfl (gS rfl (gS rfl (gS rfl (gS rfl (gS rfl (gS rfl (gS rfl (gS rfl (gS rfl (gS rfl (gS rfl (gS rfl (gS rfl (gS rfl (gS rfl (gS rfl (gS rfl (gS rfl (gS rfl (gS rfl (gS rfl (gS rfl (gS rfl (gS rfl (gS rfl (gS rfl (gS rfl (gS rfl (gS rfl (gS rfl (gS rfl (gS rfl (gS rfl (gS rfl (gS rfl (gS rfl (gS rfl (gS rfl (gS rfl (gS rfl (gS rfl (gS rfl (gS rfl (gS rfl (gS rfl (gS rfl (gS rfl (gS rfl (gS rfl (gS rfl (gS rfl (gS rfl (gS rfl (gS rfl (gS rfl (gS rfl (gS rfl (gS rfl (gS rfl (gS rfl (gS rfl (gS rfl (gS rfl (gS rfl (gS rfl (gS rfl (gS rfl (gS rfl (gS rfl (gS rfl (gS rfl (gS rfl (gS rfl (gS rfl (gS rfl (gS rfl (gS rfl (gS rfl (gS rfl (gS rfl (gS rfl (gS rfl (gS rfl (gS rfl (gS rfl (gS rfl (gS rfl (gS rfl (gS rfl (gS rfl (gS rfl (gS rfl (gS rfl (gS rfl (gS rfl (gS rfl (gS rfl (gS rfl g0)))))))))))))))))))))))))))))))))))))))))))))))))))))))))))))))))))))))))))))))))))))))))))))))))))))))))))))))))))))))))))))))))))))))))))))))))))))))))))))))))))) (gS rfl (gS rfl (gS rfl (gS rfl (gS rfl (gS rfl (gS rfl (gS rfl (gS rfl (gS rfl (gS rfl (gS rfl (gS rfl (gS rfl (gS rfl (gS rfl (gS rfl (gS rfl (gS rfl (gS rfl (gS rfl (gS rfl (gS rfl (gS rfl (gS rfl (gS rfl (gS rfl (gS rfl (gS rfl (gS rfl (gS rfl (gS rfl (gS rfl (gS rfl (gS rfl (gS rfl (gS rfl (gS rfl (gS rfl (gS rfl (gS rfl (gS rfl (gS rfl (gS rfl (gS rfl (gS rfl (gS rfl (gS rfl (gS rfl (gS rfl (gS rfl (gS rfl (gS rfl (gS rfl (gS rfl (gS rfl (gS rfl (gS rfl (gS rfl (gS rfl (gS rfl (gS rfl (gS rfl (gS rfl (gS rfl (gS rfl (gS rfl (gS rfl (gS rfl (gS rfl (gS rfl (gS rfl (gS rfl (gS rfl (gS rfl (gS rfl (gS rfl (gS rfl (gS rfl (gS rfl (gS rfl (gS rfl (gS rfl (gS rfl (gS rfl (gS rfl (gS rfl (gS rfl (gS rfl (gS rfl (gS rfl (gS rfl (gS rfl (gS rfl (gS rfl (gS rfl (gS rfl (gS rfl (gS rfl (gS rfl (gS rfl (gS rfl (gS rfl (gS rfl (gS rfl (gS rfl (gS rfl (gS rfl (gS rfl (gS rfl (gS rfl (gS rfl (gS rfl (gS rfl (gS rfl (gS rfl (gS rfl (gS rfl (gS rfl (gS rfl (gS rfl (gS rfl (gS rfl (gS rfl (gS rfl (gS rfl (gS rfl (gS rfl (gS rfl (gS rfl (gS rfl (gS rfl (gS rfl (gS rfl (gS rfl (gS rfl (gS rfl (gS rfl (gS rfl (gS rfl (gS rfl (gS rfl (gS rfl (gS rfl (gS rfl (gS rfl (gS rfl (gS rfl (gS rfl (gS rfl (gS rfl (gS rfl (gS rfl (gS rfl (gS rfl (gS rfl (gS rfl (gS rfl (gS rfl (gS rfl (gS rfl (gS rfl (gS rfl g0))))))))))))))))))))))))))))))))))))))))))))))))))))))))))))))))))))))))))))))))))))))))))))))))))))))))))))))))))))))))))))))))))))))))))))))))))))))))))))))))))) (gS rfl (gS rfl (gS rfl (gS rfl (gS rfl (gS rfl (gS rfl (gS rfl (gS rfl (gS rfl (gS rfl (gS rfl (gS rfl (gS rfl (gS rfl (gS rfl (gS rfl (gS rfl (gS rfl (gS rfl (gS rfl (gS rfl (gS rfl (gS rfl (gS rfl (gS rfl (gS rfl (gS rfl (gS rfl (gS rfl (gS rfl (gS rfl (gS rfl (gS rfl (gS rfl (gS rfl (gS rfl (gS rfl (gS rfl (gS rfl (gS rfl (gS rfl (gS rfl (gS rfl (gS rfl (gS rfl (gS rfl (gS rfl (gS rfl (gS rfl (gS rfl (gS rfl (gS rfl (gS rfl (gS rfl (gS rfl (gS rfl (gS rfl (gS rfl (gS rfl (gS rfl (gS rfl (gS rfl (gS rfl (gS rfl (gS rfl (gS rfl (gS rfl (gS rfl (gS rfl (gS rfl (gS rfl (gS rfl (gS rfl (gS rfl (gS rfl (gS rfl (gS rfl (gS rfl (gS rfl (gS rfl (gS rfl (gS rfl (gS rfl (gS rfl (gS rfl (gS rfl (gS rfl (gS rfl (gS rfl (gS rfl (gS rfl (gS rfl (gS rfl (gS rfl (gS rfl (gS rfl (gS rfl (gS rfl (gS rfl (gS rfl (gS rfl (gS rfl (gS rfl (gS rfl (gS rfl (gS rfl (gS rfl (gS rfl (gS rfl (gS rfl (gS rfl (gS rfl (gS rfl (gS rfl (gS rfl (gS rfl (gS rfl (gS rfl (gS rfl (gS rfl (gS rfl (gS rfl (gS rfl (gS rfl (gS rfl (gS rfl (gS rfl (gS rfl (gS rfl (gS rfl (gS rfl (gS rfl (gS rfl (gS rfl (gS rfl (gS rfl (gS rfl (gS rfl (gS rfl (gS rfl (gS rfl (gS rfl (gS rfl (gS rfl (gS rfl (gS rfl (gS rfl (gS rfl (gS rfl (gS rfl (gS rfl (gS rfl (gS rfl (gS rfl (gS rfl (gS rfl (gS rfl (gS rfl (gS rfl (gS rfl (gS rfl g0)))))))))))))))))))))))))))))))))))))))))))))))))))))))))))))))))))))))))))))))))))))))))))))))))))))))))))))))))))))))))))))))))))))))))))))))))))))))))))))))))) (gS rfl (gS rfl (gS rfl (gS rfl (gS rfl (gS rfl (gS rfl (gS rfl (gS rfl (gS rfl (gS rfl (gS rfl (gS rfl (gS rfl (gS rfl (gS rfl (gS rfl (gS rfl (gS rfl (gS rfl (gS rfl (gS rfl (gS rfl (gS rfl (gS rfl (gS rfl (gS rfl (gS rfl (gS rfl (gS rfl (gS rfl (gS rfl (gS rfl (gS rfl (gS rfl (gS rfl (gS rfl (gS rfl (gS rfl (gS rfl (gS rfl (gS rfl (gS rfl (gS rfl (gS rfl (gS rfl (gS rfl (gS rfl (gS rfl (gS rfl (gS rfl (gS rfl (gS rfl (gS rfl (gS rfl (gS rfl (gS rfl (gS rfl (gS rfl (gS rfl (gS rfl (gS rfl (gS rfl (gS rfl (gS rfl (gS rfl (gS rfl (gS rfl (gS rfl (gS rfl (gS rfl (gS rfl (gS rfl (gS rfl (gS rfl (gS rfl (gS rfl (gS rfl (gS rfl (gS rfl (gS rfl (gS rfl (gS rfl (gS rfl (gS rfl (gS rfl (gS rfl (gS rfl (gS rfl (gS rfl (gS rfl (gS rfl (gS rfl (gS rfl (gS rfl (gS rfl (gS rfl (gS rfl (gS rfl (gS rfl (gS rfl (gS rfl (gS rfl (gS rfl (gS rfl (gS rfl (gS rfl (gS rfl (gS rfl (gS rfl (gS rfl (gS rfl (gS rfl (gS rfl (gS rfl (gS rfl (gS rfl (gS rfl (gS rfl (gS rfl (gS rfl (gS rfl (gS rfl (gS rfl (gS rfl (gS rfl (gS rfl (gS rfl (gS rfl (gS rfl (gS rfl (gS rfl (gS rfl (gS rfl (gS rfl (gS rfl (gS rfl (gS rfl (gS rfl (gS rfl (gS rfl (gS rfl (gS rfl (gS rfl (gS rfl (gS rfl (gS rfl (gS rfl (gS rfl (gS rfl (gS rfl (gS rfl (gS rfl (gS rfl (gS rfl (gS rfl (gS rfl (gS rfl (gS rfl (gS rfl (gS rfl g0))))))))))))))))))))))))))))))))))))))))))))))))))))))))))))))))))))))))))))))))))))))))))))))))))))))))))))))))))))))))))))))))))))))))))))))))))))))))))))))))) (gS rfl (gS rfl (gS rfl (gS rfl (gS rfl (gS rfl (gS rfl (gS rfl (gS rfl (gS rfl (gS rfl (gS rfl (gS rfl (gS rfl (gS rfl (gS rfl (gS rfl (gS rfl (gS rfl (gS rfl (gS rfl (gS rfl (gS rfl (gS rfl (gS rfl (gS rfl (gS rfl (gS rfl (gS rfl (gS rfl (gS rfl (gS rfl (gS rfl (gS rfl (gS rfl (gS rfl (gS rfl (gS rfl (gS rfl (gS rfl (gS rfl (gS rfl (gS rfl (gS rfl (gS rfl (gS rfl (gS rfl (gS rfl (gS rfl (gS rfl (gS rfl (gS rfl (gS rfl (gS rfl (gS rfl (gS rfl (gS rfl (gS rfl (gS rfl (gS rfl (gS rfl (gS rfl (gS rfl (gS rfl (gS rfl (gS rfl (gS rfl (gS rfl (gS rfl (gS rfl (gS rfl (gS rfl (gS rfl (gS rfl (gS rfl (gS rfl (gS rfl (gS rfl (gS rfl (gS rfl (gS rfl (gS rfl (gS rfl (gS rfl (gS rfl (gS rfl (gS rfl (gS rfl (gS rfl (gS rfl (gS rfl (gS rfl (gS rfl (gS rfl (gS rfl (gS rfl (gS rfl (gS rfl (gS rfl (gS rfl (gS rfl (gS rfl (gS rfl (gS rfl (gS rfl (gS rfl (gS rfl (gS rfl (gS rfl (gS rfl (gS rfl (gS rfl (gS rfl (gS rfl (gS rfl (gS rfl (gS rfl (gS rfl (gS rfl (gS rfl (gS rfl (gS rfl (gS rfl (gS rfl (gS rfl (gS rfl (gS rfl (gS rfl (gS rfl (gS rfl (gS rfl (gS rfl (gS rfl (gS rfl (gS rfl (gS rfl (gS rfl (gS rfl (gS rfl (gS rfl (gS rfl (gS rfl (gS rfl (gS rfl (gS rfl (gS rfl (gS rfl (gS rfl (gS rfl (gS rfl (gS rfl (gS rfl (gS rfl (gS rfl (gS rfl (gS rfl (gS rfl (gS rfl (gS rfl (gS rfl g0)))))))))))))))))))))))))))))))))))))))))))))))))))))))))))))))))))))))))))))))))))))))))))))))))))))))))))))))))))))))))))))))))))))))))))))))))))))))))))))))) (gS rfl (gS rfl (gS rfl (gS rfl (gS rfl (gS rfl (gS rfl (gS rfl (gS rfl (gS rfl (gS rfl (gS rfl (gS rfl (gS rfl (gS rfl (gS rfl (gS rfl (gS rfl (gS rfl (gS rfl (gS rfl (gS rfl (gS rfl (gS rfl (gS rfl (gS rfl (gS rfl (gS rfl (gS rfl (gS rfl (gS rfl (gS rfl (gS rfl (gS rfl (gS rfl (gS rfl (gS rfl (gS rfl (gS rfl (gS rfl (gS rfl (gS rfl (gS rfl (gS rfl (gS rfl (gS rfl (gS rfl (gS rfl (gS rfl (gS rfl (gS rfl (gS rfl (gS rfl (gS rfl (gS rfl (gS rfl (gS rfl (gS rfl (gS rfl (gS rfl (gS rfl (gS rfl (gS rfl (gS rfl (gS rfl (gS rfl (gS rfl (gS rfl (gS rfl (gS rfl (gS rfl (gS rfl (gS rfl (gS rfl (gS rfl (gS rfl (gS rfl (gS rfl (gS rfl (gS rfl (gS rfl (gS rfl (gS rfl (gS rfl (gS rfl (gS rfl (gS rfl (gS rfl (gS rfl (gS rfl (gS rfl (gS rfl (gS rfl (gS rfl (gS rfl (gS rfl (gS rfl (gS rfl (gS rfl (gS rfl (gS rfl (gS rfl (gS rfl (gS rfl (gS rfl (gS rfl (gS rfl (gS rfl (gS rfl (gS rfl (gS rfl (gS rfl (gS rfl (gS rfl (gS rfl (gS rfl (gS rfl (gS rfl (gS rfl (gS rfl (gS rfl (gS rfl (gS rfl (gS rfl (gS rfl (gS rfl (gS rfl (gS rfl (gS rfl (gS rfl (gS rfl (gS rfl (gS rfl (gS rfl (gS rfl (gS rfl (gS rfl (gS rfl (gS rfl (gS rfl (gS rfl (gS rfl (gS rfl (gS rfl (gS rfl (gS rfl (gS rfl (gS rfl (gS rfl (gS rfl (gS rfl (gS rfl g0)))))))))))))))))))))))))))))))))))))))))))))))))))))))))))))))))))))))))))))))))))))))))))))))))))))))))))))))))))))))))))))))))))))))))))))))))))))))) (gS rfl (gS rfl (gS rfl (gS rfl (gS rfl (gS rfl (gS rfl (gS rfl (gS rfl (gS rfl (gS rfl (gS rfl (gS rfl (gS rfl (gS rfl (gS rfl (gS rfl (gS rfl (gS rfl (gS rfl (gS rfl (gS rfl (gS rfl (gS rfl (gS rfl (gS rfl (gS rfl (gS rfl (gS rfl (gS rfl (gS rfl (gS rfl (gS rfl (gS rfl (gS rfl (gS rfl (gS rfl (gS rfl (gS rfl (gS rfl (gS rfl (gS rfl (gS rfl (gS rfl (gS rfl (gS rfl (gS rfl (gS rfl (gS rfl (gS rfl (gS rfl (gS rfl (gS rfl (gS rfl (gS rfl (gS rfl (gS rfl (gS rfl (gS rfl (gS rfl (gS rfl (gS rfl (gS rfl (gS rfl (gS rfl (gS rfl (gS rfl (gS rfl (gS rfl (gS rfl (gS rfl (gS rfl (gS rfl (gS rfl (gS rfl (gS rfl (gS rfl (gS rfl (gS rfl (gS rfl (gS rfl (gS rfl (gS rfl (gS rfl (gS rfl (gS rfl (gS rfl (gS rfl (gS rfl (gS rfl (gS rfl (gS rfl (gS rfl (gS rfl (gS rfl (gS rfl (gS rfl (gS rfl (gS rfl (gS rfl (gS rfl (gS rfl (gS rfl (gS rfl (gS rfl (gS rfl (gS rfl (gS rfl (gS rfl (gS rfl (gS rfl (gS rfl (gS rfl (gS rfl (gS rfl (gS rfl (gS rfl (gS rfl (gS rfl (gS rfl (gS rfl (gS rfl (gS rfl (gS rfl (gS rfl (gS rfl (gS rfl (gS rfl (gS rfl (gS rfl (gS rfl (gS rfl (gS rfl (gS rfl (gS rfl (gS rfl (gS rfl (gS rfl (gS rfl (gS rfl (gS rfl (gS rfl (gS rfl (gS rfl g0)))))))))))))))))))))))))))))))))))))))))))))))))))))))))))))))))))))))))))))))))))))))))))))))))))))))))))))))))))))))))))))))))))))))))))))))) (gS rfl (gS rfl (gS rfl (gS rfl (gS rfl (gS rfl (gS rfl (gS rfl (gS rfl (gS rfl (gS rfl (gS rfl (gS rfl (gS rfl (gS rfl (gS rfl (gS rfl (gS rfl (gS rfl (gS rfl (gS rfl (gS rfl (gS rfl (gS rfl (gS rfl (gS rfl (gS rfl (gS rfl (gS rfl (gS rfl (gS rfl (gS rfl (gS rfl (gS rfl (gS rfl (gS rfl (gS rfl (gS rfl (gS rfl (gS rfl (gS rfl (gS rfl (gS rfl (gS rfl (gS rfl (gS rfl (gS rfl (gS rfl (gS rfl (gS rfl (gS rfl (gS rfl (gS rfl (gS rfl (gS rfl (gS rfl (gS rfl (gS rfl (gS rfl (gS rfl (gS rfl (gS rfl (gS rfl (gS rfl (gS rfl (gS rfl (gS rfl (gS rfl (gS rfl (gS rfl (gS rfl (gS rfl (gS rfl (gS rfl (gS rfl (gS rfl (gS rfl (gS rfl (gS rfl (gS rfl (gS rfl (gS rfl (gS rfl (gS rfl (gS rfl (gS rfl (gS rfl (gS rfl (gS rfl (gS rfl (gS rfl (gS rfl (gS rfl (gS rfl (gS rfl (gS rfl (gS rfl (gS rfl (gS rfl (gS rfl (gS rfl (gS rfl (gS rfl (gS rfl (gS rfl (gS rfl (gS rfl (gS rfl (gS rfl (gS rfl (gS rfl (gS rfl (gS rfl (gS rfl (gS rfl (gS rfl (gS rfl (gS rfl (gS rfl (gS rfl (gS rfl (gS rfl (gS rfl (gS rfl (gS rfl (gS rfl (gS rfl (gS rfl (gS rfl (gS rfl (gS rfl (gS rfl (gS rfl (gS rfl (gS rfl (gS rfl g0)))))))))))))))))))))))))))))))))))))))))))))))))))))))))))))))))))))))))))))))))))))))))))))))))))))))))))))))))))))))))))))))))))))))) (gS rfl (gS rfl (gS rfl (gS rfl (gS rfl (gS rfl (gS rfl (gS rfl (gS rfl (gS rfl (gS rfl (gS rfl (gS rfl (gS rfl (gS rfl (gS rfl (gS rfl (gS rfl (gS rfl (gS rfl (gS rfl (gS rfl (gS rfl (gS rfl (gS rfl (gS rfl (gS rfl (gS rfl (gS rfl (gS rfl (gS rfl (gS rfl (gS rfl (gS rfl (gS rfl (gS rfl (gS rfl (gS rfl (gS rfl (gS rfl (gS rfl (gS rfl (gS rfl (gS rfl (gS rfl (gS rfl (gS rfl (gS rfl (gS rfl (gS rfl (gS rfl (gS rfl (gS rfl (gS rfl (gS rfl (gS rfl (gS rfl (gS rfl (gS rfl (gS rfl (gS rfl (gS rfl (gS rfl (gS rfl (gS rfl (gS rfl (gS rfl (gS rfl (gS rfl (gS rfl (gS rfl (gS rfl (gS rfl (gS rfl (gS rfl (gS rfl (gS rfl (gS rfl (gS rfl (gS rfl (gS rfl (gS rfl (gS rfl (gS rfl (gS rfl (gS rfl (gS rfl (gS rfl (gS rfl (gS rfl (gS rfl (gS rfl (gS rfl (gS rfl (gS rfl (gS rfl (gS rfl (gS rfl (gS rfl (gS rfl (gS rfl (gS rfl (gS rfl (gS rfl (gS rfl (gS rfl (gS rfl (gS rfl (gS rfl (gS rfl (gS rfl (gS rfl (gS rfl (gS rfl (gS rfl (gS rfl (gS rfl (gS rfl (gS rfl (gS rfl (gS rfl (gS rfl (gS rfl (gS rfl (gS rfl (gS rfl (gS rfl (gS rfl g0)))))))))))))))))))))))))))))))))))))))))))))))))))))))))))))))))))))))))))))))))))))))))))))))))))))))))))))))))))))))))))))))) (gS rfl (gS rfl (gS rfl (gS rfl (gS rfl (gS rfl (gS rfl (gS rfl (gS rfl (gS rfl (gS rfl (gS rfl (gS rfl (gS rfl (gS rfl (gS rfl (gS rfl (gS rfl (gS rfl (gS rfl (gS rfl (gS rfl (gS rfl (gS rfl (gS rfl (gS rfl (gS rfl (gS rfl (gS rfl (gS rfl (gS rfl (gS rfl (gS rfl (gS rfl (gS rfl (gS rfl (gS rfl (gS rfl (gS rfl (gS rfl (gS rfl (gS rfl (gS rfl (gS rfl (gS rfl (gS rfl (gS rfl (gS rfl (gS rfl (gS rfl (gS rfl (gS rfl (gS rfl (gS rfl (gS rfl (gS rfl (gS rfl (gS rfl (gS rfl (gS rfl (gS rfl (gS rfl (gS rfl (gS rfl (gS rfl (gS rfl (gS rfl (gS rfl (gS rfl (gS rfl (gS rfl (gS rfl (gS rfl (gS rfl (gS rfl (gS rfl (gS rfl (gS rfl (gS rfl (gS rfl (gS rfl (gS rfl (gS rfl (gS rfl (gS rfl (gS rfl (gS rfl (gS rfl (gS rfl (gS rfl (gS rfl (gS rfl (gS rfl (gS rfl (gS rfl (gS rfl (gS rfl (gS rfl (gS rfl (gS rfl (gS rfl (gS rfl (gS rfl (gS rfl (gS rfl (gS rfl (gS rfl (gS rfl (gS rfl (gS rfl (gS rfl (gS rfl (gS rfl (gS rfl (gS rfl (gS rfl (gS rfl (gS rfl (gS rfl (gS rfl g0)))))))))))))))))))))))))))))))))))))))))))))))))))))))))))))))))))))))))))))))))))))))))))))))))))))))))))))))))))))))) (gS rfl (gS rfl (gS rfl (gS rfl (gS rfl (gS rfl (gS rfl (gS rfl (gS rfl (gS rfl (gS rfl (gS rfl (gS rfl (gS rfl (gS rfl (gS rfl (gS rfl (gS rfl (gS rfl (gS rfl (gS rfl (gS rfl (gS rfl (gS rfl (gS rfl (gS rfl (gS rfl (gS rfl (gS rfl (gS rfl (gS rfl (gS rfl (gS rfl (gS rfl (gS rfl (gS rfl (gS rfl (gS rfl (gS rfl (gS rfl (gS rfl (gS rfl (gS rfl (gS rfl (gS rfl (gS rfl (gS rfl (gS rfl (gS rfl (gS rfl (gS rfl (gS rfl (gS rfl (gS rfl (gS rfl (gS rfl (gS rfl (gS rfl (gS rfl (gS rfl (gS rfl (gS rfl (gS rfl (gS rfl (gS rfl (gS rfl (gS rfl (gS rfl (gS rfl (gS rfl (gS rfl (gS rfl (gS rfl (gS rfl (gS rfl (gS rfl (gS rfl (gS rfl (gS rfl (gS rfl (gS rfl (gS rfl (gS rfl (gS rfl (gS rfl (gS rfl (gS rfl (gS rfl (gS rfl (gS rfl (gS rfl (gS rfl (gS rfl (gS rfl (gS rfl (gS rfl (gS rfl (gS rfl (gS rfl (gS rfl (gS rfl (gS rfl (gS rfl (gS rfl (gS rfl (gS rfl (gS rfl (gS rfl (gS rfl (gS rfl (gS rfl (gS rfl g0)))))))))))))))))))))))))))))))))))))))))))))))))))))))))))))))))))))))))))))))))))))))))))))))))))))))))))))))) (gS rfl (gS rfl (gS rfl (gS rfl (gS rfl (gS rfl (gS rfl (gS rfl (gS rfl (gS rfl (gS rfl (gS rfl (gS rfl (gS rfl (gS rfl (gS rfl (gS rfl (gS rfl (gS rfl (gS rfl (gS rfl (gS rfl (gS rfl (gS rfl (gS rfl (gS rfl (gS rfl (gS rfl (gS rfl (gS rfl (gS rfl (gS rfl (gS rfl (gS rfl (gS rfl (gS rfl (gS rfl (gS rfl (gS rfl (gS rfl (gS rfl (gS rfl (gS rfl (gS rfl (gS rfl (gS rfl (gS rfl (gS rfl (gS rfl (gS rfl (gS rfl (gS rfl (gS rfl (gS rfl (gS rfl (gS rfl (gS rfl (gS rfl (gS rfl (gS rfl (gS rfl (gS rfl (gS rfl (gS rfl (gS rfl (gS rfl (gS rfl (gS rfl (gS rfl (gS rfl (gS rfl (gS rfl (gS rfl (gS rfl (gS rfl (gS rfl (gS rfl (gS rfl (gS rfl (gS rfl (gS rfl (gS rfl (gS rfl (gS rfl (gS rfl (gS rfl (gS rfl (gS rfl (gS rfl (gS rfl (gS rfl (gS rfl (gS rfl (gS rfl (gS rfl (gS rfl (gS rfl (gS rfl (gS rfl (gS rfl (gS rfl (gS rfl (gS rfl (gS rfl g0)))))))))))))))))))))))))))))))))))))))))))))))))))))))))))))))))))))))))))))))))))))))))))))))))))))))) (gS rfl (gS rfl (gS rfl (gS rfl (gS rfl (gS rfl (gS rfl (gS rfl (gS rfl (gS rfl (gS rfl (gS rfl (gS rfl (gS rfl (gS rfl (gS rfl (gS rfl (gS rfl (gS rfl (gS rfl (gS rfl (gS rfl (gS rfl (gS rfl (gS rfl (gS rfl (gS rfl (gS rfl (gS rfl (gS rfl (gS rfl (gS rfl (gS rfl (gS rfl (gS rfl (gS rfl (gS rfl (gS rfl (gS rfl (gS rfl (gS rfl (gS rfl (gS rfl (gS rfl (gS rfl (gS rfl (gS rfl (gS rfl (gS rfl (gS rfl (gS rfl (gS rfl (gS rfl (gS rfl (gS rfl (gS rfl (gS rfl (gS rfl (gS rfl (gS rfl (gS rfl (gS rfl (gS rfl (gS rfl (gS rfl (gS rfl (gS rfl (gS rfl (gS rfl (gS rfl (gS rfl (gS rfl (gS rfl (gS rfl (gS rfl (gS rfl (gS rfl (gS rfl (gS rfl (gS rfl (gS rfl (gS rfl (gS rfl (gS rfl (gS rfl (gS rfl (gS rfl (gS rfl (gS rfl (gS rfl (gS rfl (gS rfl (gS rfl (gS rfl (gS rfl (gS rfl g0)))))))))))))))))))))))))))))))))))))))))))))))))))))))))))))))))))))))))))))))))))))))))))))))) (gS rfl (gS rfl (gS rfl (gS rfl (gS rfl (gS rfl (gS rfl (gS rfl (gS rfl (gS rfl (gS rfl (gS rfl (gS rfl (gS rfl (gS rfl (gS rfl (gS rfl (gS rfl (gS rfl (gS rfl (gS rfl (gS rfl (gS rfl (gS rfl (gS rfl (gS rfl (gS rfl (gS rfl (gS rfl (gS rfl (gS rfl (gS rfl (gS rfl (gS rfl (gS rfl (gS rfl (gS rfl (gS rfl (gS rfl (gS rfl (gS rfl (gS rfl (gS rfl (gS rfl (gS rfl (gS rfl (gS rfl (gS rfl (gS rfl (gS rfl (gS rfl (gS rfl (gS rfl (gS rfl (gS rfl (gS rfl (gS rfl (gS rfl (gS rfl (gS rfl (gS rfl (gS rfl (gS rfl (gS rfl (gS rfl (gS rfl (gS rfl (gS rfl (gS rfl (gS rfl (gS rfl (gS rfl (gS rfl (gS rfl (gS rfl (gS rfl (gS rfl (gS rfl (gS rfl (gS rfl (gS rfl (gS rfl (gS rfl (gS rfl (gS rfl (gS rfl (gS rfl (gS rfl g0)))))))))))))))))))))))))))))))))))))))))))))))))))))))))))))))))))))))))))))))))))))))) (gS rfl (gS rfl (gS rfl (gS rfl (gS rfl (gS rfl (gS rfl (gS rfl (gS rfl (gS rfl (gS rfl (gS rfl (gS rfl (gS rfl (gS rfl (gS rfl (gS rfl (gS rfl (gS rfl (gS rfl (gS rfl (gS rfl (gS rfl (gS rfl (gS rfl (gS rfl (gS rfl (gS rfl (gS rfl (gS rfl (gS rfl (gS rfl (gS rfl (gS rfl (gS rfl (gS rfl (gS rfl (gS rfl (gS rfl (gS rfl (gS rfl (gS rfl (gS rfl (gS rfl (gS rfl (gS rfl (gS rfl (gS rfl (gS rfl (gS rfl (gS rfl (gS rfl (gS rfl (gS rfl (gS rfl (gS rfl (gS rfl (gS rfl (gS rfl (gS rfl (gS rfl (gS rfl (gS rfl (gS rfl (gS rfl (gS rfl (gS rfl (gS rfl (gS rfl (gS rfl (gS rfl (gS rfl (gS rfl (gS rfl (gS rfl (gS rfl (gS rfl (gS rfl (gS rfl (gS rfl g0)))))))))))))))))))))))))))))))))))))))))))))))))))))))))))))))))))))))))))))))) (gS rfl (gS rfl (gS rfl (gS rfl (gS rfl (gS rfl (gS rfl (gS rfl (gS rfl (gS rfl (gS rfl (gS rfl (gS rfl (gS rfl (gS rfl (gS rfl (gS rfl (gS rfl (gS rfl (gS rfl (gS rfl (gS rfl (gS rfl (gS rfl (gS rfl (gS rfl (gS rfl (gS rfl (gS rfl (gS rfl (gS rfl (gS rfl (gS rfl (gS rfl (gS rfl (gS rfl (gS rfl (gS rfl (gS rfl (gS rfl (gS rfl (gS rfl (gS rfl (gS rfl (gS rfl (gS rfl (gS rfl (gS rfl (gS rfl (gS rfl (gS rfl (gS rfl (gS rfl (gS rfl (gS rfl (gS rfl (gS rfl (gS rfl (gS rfl (gS rfl (gS rfl (gS rfl (gS rfl (gS rfl (gS rfl (gS rfl (gS rfl (gS rfl (gS rfl (gS rfl (gS rfl (gS rfl g0)))))))))))))))))))))))))))))))))))))))))))))))))))))))))))))))))))))))) (fun g => ?_)
  refine c_seq (fun K86 hK86 => ?_)
  refine c_region ?_
  refine l_step (y_moveV (et (gS rfl (gS rfl (gS rfl (gS rfl (gS rfl (gS rfl (gS rfl (gS rfl (gS rfl (gS rfl (gS rfl (gS rfl (gS rfl (gS rfl (gS rfl (gS rfl (gS rfl (gS rfl (gS rfl g0))))))))))))))))))) rfl)) ?_
  refine l_step (y_moveV (et (gS rfl (gS rfl (gS rfl (gS rfl (gS rfl (gS rfl (gS rfl (gS rfl (gS rfl (gS rfl (gS rfl (gS rfl (gS rfl (gS rfl (gS rfl (gS rfl (gS rfl g0))))))))))))))))) rfl)) ?_
  refine l_step (y_moveV (et (gS rfl (gS rfl (gS rfl (gS rfl (gS rfl (gS rfl (gS rfl (gS rfl (gS rfl (gS rfl (gS rfl (gS rfl (gS rfl (gS rfl (gS rfl (gS rfl (gS rfl g0))))))))))))))))) rfl)) ?_
  refine l_step (y_not64 (et g0 rfl) ?_) ?_
  first | exact limb_lt _ _ | omega
  refine l_step (y_moveV (et (gS rfl (gS rfl (gS rfl (gS rfl (gS rfl (gS rfl (gS rfl (gS rfl (gS rfl (gS rfl (gS rfl (gS rfl (gS rfl (gS rfl (gS rfl (gS rfl (gS rfl (gS rfl (gS rfl (gS rfl (gS rfl (gS rfl g0)))))))))))))))))))))) rfl)) ?_
  refine l_step (y_and uk64 (et (gS rfl g0) rfl) (et g0 rfl) ?_ ?_) ?_
  repeat' first | assumption | refine rotl_lt64 ?_ (by decide) | refine x64 ?_ ?_ | refine and64 ?_ | exact not64 _
  repeat' first | assumption | refine rotl_lt64 ?_ (by decide) | refine x64 ?_ ?_ | refine and64 ?_ | exact not64 _
  refine l_step (y_xor uk64 (et (gS rfl (gS rfl (gS rfl (gS rfl g0)))) rfl) (et g0 rfl) ?_ ?_) ?_
  repeat' first | assumption | refine rotl_lt64 ?_ (by decide) | refine x64 ?_ ?_ | refine and64 ?_ | exact not64 _
  repeat' first | assumption | refine rotl_lt64 ?_ (by decide) | refine x64 ?_ ?_ | refine and64 ?_ | exact not64 _
  refine l_step (y_nil (et (gS rfl (gS rfl (gS rfl (gS rfl (gS rfl (gS rfl g0)))))) rfl)) ?_
  refine l_step (y_idxAC 8 8 Hvaa.underlying318 sz_26 (et g0 rfl) rfl rfl rfl) ?_
  refine l_effN (e_store sz_26 (et g0 rfl) (cellsV (et (gS rfl (gS rfl g0)) rfl) rfl) rfl (by intro v hv; simp at hv; subst hv; rfl) kA (by exact Nat.le_of_ble_eq_true rfl)) (fun v87 w87 h87 => ?_)
  obtain ⟨rfl, x87⟩ := h87
  replace kA := x87.blk
  replace U := U.st x87 (.inl (by first | rfl | (simp; done)))
  replace kA : Blk w87 b (uL [s0 ^^^ ((18446744073709551615 - s1) &&& s2), s1 ^^^ ((18446744073709551615 - s2) &&& s3), s2 ^^^ ((18446744073709551615 - s3) &&& s4), s3 ^^^ ((18446744073709551615 - s4) &&& s0), s4 ^^^ ((18446744073709551615 - s0) &&& s1), t0 ^^^ ((18446744073709551615 - t1) &&& t2), t1 ^^^ ((18446744073709551615 - t2) &&& t3), t2 ^^^ ((18446744073709551615 - t3) &&& t4), t3 ^^^ ((18446744073709551615 - t4) &&& t0), a9, a10, a11, a12, a13, a14, a15, a16, a17, a18, a19, a20, a21, a22, a23, a24]).toArray := kA
  refine l_nil ?_
  refine hK86 _ _ ?_
  refine fg19 0 17 18 21 22 23 24 25 26 27 28 29 30 31 32 33 34 35 36 (gS rfl (gS rfl (gS rfl (gS rfl (gS rfl (gS rfl (gS rfl (gS rfl (gS rfl (gS rfl (gS rfl (gS rfl (gS rfl (gS rfl (gS rfl (gS rfl (gS rfl (gS rfl (gS rfl (gS rfl (gS rfl (gS rfl (gS rfl (gS rfl (gS rfl (gS rfl (gS rfl (gS rfl g0)))))))))))))))))))))))))))) (gS rfl (gS rfl (gS rfl (gS rfl (gS rfl (gS rfl (gS rfl (gS rfl (gS rfl (gS rfl (gS rfl (gS rfl (gS rfl (gS rfl (gS rfl (gS rfl (gS rfl (gS rfl (gS rfl (gS rfl (gS rfl (gS rfl (gS rfl (gS rfl (gS rfl (gS rfl (gS rfl g0))))))))))))))))))))))))))) (gS rfl (gS rfl (gS rfl (gS rfl (gS rfl (gS rfl (gS rfl (gS rfl (gS rfl (gS rfl (gS rfl (gS rfl (gS rfl (gS rfl (gS rfl (gS rfl (gS rfl (gS rfl (gS rfl (gS rfl (gS rfl (gS rfl (gS rfl (gS rfl (gS rfl (gS rfl g0)))))))))))))))))))))))))) (gS rfl (gS rfl (gS rfl (gS rfl (gS rfl (gS rfl (gS rfl (gS rfl (gS rfl (gS rfl (gS rfl (gS rfl (gS rfl (gS rfl (gS rfl (gS rfl (gS rfl (gS rfl (gS rfl (gS rfl (gS rfl (gS rfl (gS rfl (gS rfl g0)))))))))))))))))))))))) (gS rfl (gS rfl (gS rfl (gS rfl (gS rfl (gS rfl (gS rfl (gS rfl (gS rfl (gS rfl (gS rfl (gS rfl (gS rfl (gS rfl (gS rfl (gS rfl (gS rfl (gS rfl (gS rfl (gS rfl (gS rfl (gS rfl (gS rfl g0))))))))))))))))))))))) (gS rfl (gS rfl (gS rfl (gS rfl (gS rfl (gS rfl (gS rfl (gS rfl (gS rfl (gS rfl (gS rfl (gS rfl (gS rfl (gS rfl (gS rfl (gS rfl (gS rfl (gS rfl (gS rfl (gS rfl (gS rfl (gS rfl g0)))))))))))))))))))))) (gS rfl (gS rfl (gS rfl (gS rfl (gS rfl (gS rfl (gS rfl (gS rfl (gS rfl (gS rfl (gS rfl (gS rfl (gS rfl (gS rfl (gS rfl (gS rfl (gS rfl (gS rfl (gS rfl (gS rfl (gS rfl g0))))))))))))))))))))) (gS rfl (gS rfl (gS rfl (gS rfl (gS rfl (gS rfl (gS rfl (gS rfl (gS rfl (gS rfl (gS rfl (gS rfl (gS rfl (gS rfl (gS rfl (gS rfl (gS rfl (gS rfl (gS rfl (gS rfl g0)))))))))))))))))))) (gS rfl (gS rfl (gS rfl (gS rfl (gS rfl (gS rfl (gS rfl (gS rfl (gS rfl (gS rfl (gS rfl (gS rfl (gS rfl (gS rfl (gS rfl (gS rfl (gS rfl (gS rfl (gS rfl g0))))))))))))))))))) (gS rfl (gS rfl (gS rfl (gS rfl (gS rfl (gS rfl (gS rfl (gS rfl (gS rfl (gS rfl (gS rfl (gS rfl (gS rfl (gS rfl (gS rfl (gS rfl (gS rfl (gS rfl g0)))))))))))))))))) (gS rfl (gS rfl (gS rfl (gS rfl (gS rfl (gS rfl (gS rfl (gS rfl (gS rfl (gS rfl (gS rfl (gS rfl (gS rfl (gS rfl (gS rfl (gS rfl (gS rfl g0))))))))))))))))) (gS rfl (gS rfl (gS rfl (gS rfl (gS rfl (gS rfl (gS rfl (gS rfl (gS rfl (gS rfl (gS rfl (gS rfl (gS rfl (gS rfl (gS rfl (gS rfl g0)))))))))))))))) (gS rfl (gS rfl (gS rfl (gS rfl (gS rfl (gS rfl (gS rfl (gS rfl (gS rfl (gS rfl (gS rfl (gS rfl (gS rfl (gS rfl (gS rfl g0))))))))))))))) (gS rfl (gS rfl (gS rfl (gS rfl (gS rfl (gS rfl (gS rfl (gS rfl (gS rfl (gS rfl (gS rfl (gS rfl (gS rfl (gS rfl g0)))))))))))))) (gS rfl (gS rfl (gS rfl (gS rfl (gS rfl (gS rfl (gS rfl (gS rfl (gS rfl (gS rfl (gS rfl (gS rfl (gS rfl g0))))))))))))) (gS rfl (gS rfl (gS rfl (gS rfl (gS rfl (gS rfl (gS rfl (gS rfl (gS rfl (gS rfl (gS rfl (gS rfl g0)))))))))))) (gS rfl (gS rfl (gS rfl (gS rfl (gS rfl (gS rfl (gS rfl (gS rfl (gS rfl (gS rfl (gS rfl g0))))))))))) (gS rfl (gS rfl (gS rfl (gS rfl (gS rfl (gS rfl (gS rfl (gS rfl (gS rfl (gS rfl g0)))))))))) (gS rfl (gS rfl (gS rfl (gS rfl (gS rfl (gS rfl (gS rfl (gS rfl (gS rfl g0))))))))) (fun g => ?_)
  refine c_seq (fun K88 hK88 => ?_)
  refine c_region ?_
  refine l_step (y_moveV (et (gS rfl (gS rfl (gS rfl (gS rfl (gS rfl (gS rfl (gS rfl (gS rfl (gS rfl (gS rfl (gS rfl (gS rfl (gS rfl (gS rfl (gS rfl (gS rfl (gS rfl (gS rfl g0)))))))))))))))))) rfl)) ?_
  refine l_step (y_moveV (et (gS rfl (gS rfl (gS rfl (gS rfl (gS rfl (gS rfl (gS rfl (gS rfl (gS rfl (gS rfl (gS rfl (gS rfl (gS rfl (gS rfl (gS rfl (gS rfl g0)))))))))))))))) rfl)) ?_
  refine l_step (y_moveV (et (gS rfl (gS rfl (gS rfl (gS rfl (gS rfl (gS rfl (gS rfl (gS rfl (gS rfl (gS rfl (gS rfl (gS rfl (gS rfl (gS rfl (gS rfl (gS rfl (gS rfl (gS rfl (gS rfl g0))))))))))))))))))) rfl)) ?_
  refine l_step (y_not64 (et g0 rfl) ?_) ?_
  first | exact limb_lt _ _ | omega
  refine l_step (y_moveV (et (gS rfl (gS rfl (gS rfl (gS rfl (gS rfl (gS rfl (gS rfl (gS rfl (gS rfl (gS rfl (gS rfl (gS rfl (gS rfl (gS rfl (gS rfl (gS rfl (gS rfl (gS rfl (gS rfl (gS rfl g0)))))))))))))))))))) rfl)) ?_
  refine l_step (y_and uk64 (et (gS rfl g0) rfl) (et g0 rfl) ?_ ?_) ?_
  repeat' first | assumption | refine rotl_lt64 ?_ (by decide) | refine x64 ?_ ?_ | refine and64 ?_ | exact not64 _
  repeat' first | assumption | refine rotl_lt64 ?_ (by decide) | refine x64 ?_ ?_ | refine and64 ?_ | exact not64 _
  refine l_step (y_xor uk64 (et (gS rfl (gS rfl (gS rfl (gS rfl g0)))) rfl) (et g0 rfl) ?_ ?_) ?_
  repeat' first | assumption | refine rotl_lt64 ?_ (by decide) | refine x64 ?_ ?_ | refine and64 ?_ | exact not64 _
  repeat' first | assumption | refine rotl_lt64 ?_ (by decide) | refine x64 ?_ ?_ | refine and64 ?_ | exact not64 _
  refine l_step (y_nil (et (gS rfl (gS rfl (gS rfl (gS rfl (gS rfl (gS rfl g0)))))) rfl)) ?_
  refine l_step (y_idxAC 9 9 Hvaa.underlying318 sz_26 (et g0 rfl) rfl rfl rfl) ?_
  refine l_effN (e_store sz_26 (et g0 rfl) (cellsV (et (gS rfl (gS rfl g0)) rfl) rfl) rfl (by intro v hv; simp at hv; subst hv; rfl) kA (by exact Nat.le_of_ble_eq_true rfl)) (fun v89 w89 h89 => ?_)
  obtain ⟨rfl, x89⟩ := h89
  replace kA := x89.blk
  replace U := U.st x89 (.inl (by first | rfl | (simp; done)))
  replace kA : Blk w89 b (uL [s0 ^^^ ((18446744073709551615 - s1) &&& s2), s1 ^^^ ((18446744073709551615 - s2) &&& s3), s2 ^^^ ((18446744073709551615 - s3) &&& s4), s3 ^^^ ((18446744073709551615 - s4) &&& s0), s4 ^^^ ((18446744073709551615 - s0) &&& s1), t0 ^^^ ((18446744073709551615 - t1) &&& t2), t1 ^^^ ((18446744073709551615 - t2) &&& t3), t2 ^^^ ((18446744073709551615 - t3) &&& t4), t3 ^^^ ((18446744073709551615 - t4) &&& t0), t4 ^^^ ((18446744073709551615 - t0) &&& t1), a10, a11, a12, a13, a14, a15, a16, a17, a18, a19, a20, a21, a22, a23, a24]).toArray := kA
  refine l_nil ?_
  refine hK88 _ _ ?_
  refine fg16 0 22 23 24 25 26 27 28 29 30 31 32 33 34 35 36 (gS rfl (gS rfl (gS rfl (gS rfl (gS rfl (gS rfl (gS rfl (gS rfl (gS rfl (gS rfl (gS rfl (gS rfl (gS rfl (gS rfl (gS rfl (gS rfl (gS rfl (gS rfl (gS rfl (gS rfl (gS rfl (gS rfl (gS rfl (gS rfl (gS rfl (gS rfl (gS rfl g0))))))))))))))))))))))))))) (gS rfl (gS rfl (gS rfl (gS rfl (gS rfl (gS rfl (gS rfl (gS rfl (gS rfl (gS rfl (gS rfl (gS rfl (gS rfl (gS rfl (gS rfl (gS rfl (gS rfl (gS rfl (gS rfl (gS rfl (gS rfl (gS rfl (gS rfl g0))))))))))))))))))))))) (gS rfl (gS rfl (gS rfl (gS rfl (gS rfl (gS rfl (gS rfl (gS rfl (gS rfl (gS rfl (gS rfl (gS rfl (gS rfl (gS rfl (gS rfl (gS rfl (gS rfl (gS rfl (gS rfl (gS rfl (gS rfl (gS rfl g0)))))))))))))))))))))) (gS rfl (gS rfl (gS rfl (gS rfl (gS rfl (gS rfl (gS rfl (gS rfl (gS rfl (gS rfl (gS rfl (gS rfl (gS rfl (gS rfl (gS rfl (gS rfl (gS rfl (gS rfl (gS rfl (gS rfl (gS rfl g0))))))))))))))))))))) (gS rfl (gS rfl (gS rfl (gS rfl (gS rfl (gS rfl (gS rfl (gS rfl (gS rfl (gS rfl (gS rfl (gS rfl (gS rfl (gS rfl (gS rfl (gS rfl (gS rfl (gS rfl (gS rfl (gS rfl g0)))))))))))))))))))) (gS rfl (gS rfl (gS rfl (gS rfl (gS rfl (gS rfl (gS rfl (gS rfl (gS rfl (gS rfl (gS rfl (gS rfl (gS rfl (gS rfl (gS rfl (gS rfl (gS rfl (gS rfl (gS rfl g0))))))))))))))))))) (gS rfl (gS rfl (gS rfl (gS rfl (gS rfl (gS rfl (gS rfl (gS rfl (gS rfl (gS rfl (gS rfl (gS rfl (gS rfl (gS rfl (gS rfl (gS rfl (gS rfl (gS rfl g0)))))))))))))))))) (gS rfl (gS rfl (gS rfl (gS rfl (gS rfl (gS rfl (gS rfl (gS rfl (gS rfl (gS rfl (gS rfl (gS rfl (gS rfl (gS rfl (gS rfl (gS rfl (gS rfl g0))))))))))))))))) (gS rfl (gS rfl (gS rfl (gS rfl (gS rfl (gS rfl (gS rfl (gS rfl (gS rfl (gS rfl (gS rfl (gS rfl (gS rfl (gS rfl (gS rfl (gS rfl g0)))))))))))))))) (gS rfl (gS rfl (gS rfl (gS rfl (gS rfl (gS rfl (gS rfl (gS rfl (gS rfl (gS rfl (gS rfl (gS rfl (gS rfl (gS rfl (gS rfl g0))))))))))))))) (gS rfl (gS rfl (gS rfl (gS rfl (gS rfl (gS rfl (gS rfl (gS rfl (gS rfl (gS rfl (gS rfl (gS rfl (gS rfl (gS rfl g0)))))))))))))) (gS rfl (gS rfl (gS rfl (gS rfl (gS rfl (gS rfl (gS rfl (gS rfl (gS rfl (gS rfl (gS rfl (gS rfl (gS rfl g0))))))))))))) (gS rfl (gS rfl (gS rfl (gS rfl (gS rfl (gS rfl (gS rfl (gS rfl (gS rfl (gS rfl (gS rfl (gS rfl g0)))))))))))) (gS rfl (gS rfl (gS rfl (gS rfl (gS rfl (gS rfl (gS rfl (gS rfl (gS rfl (gS rfl (gS rfl g0))))))))))) (gS rfl (gS rfl (gS rfl (gS rfl (gS rfl (gS rfl (gS rfl (gS rfl (gS rfl (gS rfl g0)))))))))) (gS rfl (gS rfl (gS rfl (gS rfl (gS rfl (gS rfl (gS rfl (gS rfl (gS rfl g0))))))))) (fun g => ?_)
  refine c_seq (fun K90 hK90 => ?_)
  refine c_region ?_
  refine l_step (y_moveV (et (gS rfl (gS rfl (gS rfl (gS rfl (gS rfl (gS rfl (gS rfl (gS rfl (gS rfl (gS rfl (gS rfl (gS rfl (gS rfl (gS rfl (gS rfl g0))))))))))))))) rfl)) ?_
  refine l_step (y_moveV (et (gS rfl (gS rfl (gS rfl (gS rfl (gS rfl (gS rfl (gS rfl (gS rfl (gS rfl (gS rfl (gS rfl (gS rfl (gS rfl (gS rfl (gS rfl g0))))))))))))))) rfl)) ?_
  refine l_step (y_moveV (et (gS rfl (gS rfl (gS rfl (gS rfl (gS rfl (gS rfl (gS rfl (gS rfl (gS rfl (gS rfl (gS rfl (gS rfl (gS rfl (gS rfl (gS rfl g0))))))))))))))) rfl)) ?_
  refine l_step (y_not64 (et g0 rfl) ?_) ?_
  first | exact limb_lt _ _ | omega
  refine l_step (y_moveV (et (gS rfl (gS rfl (gS rfl (gS rfl (gS rfl (gS rfl (gS rfl (gS rfl (gS rfl (gS rfl (gS rfl (gS rfl (gS rfl (gS rfl (gS rfl (gS rfl g0)))))))))))))))) rfl)) ?_
  refine l_step (y_and uk64 (et (gS rfl g0) rfl) (et g0 rfl) ?_ ?_) ?_
  repeat' first | assumption | refine rotl_lt64 ?_ (by decide) | refine x64 ?_ ?_ | refine and64 ?_ | exact not64 _
  repeat' first | assumption | refine rotl_lt64 ?_ (by decide) | refine x64 ?_ ?_ | refine and64 ?_ | exact not64 _
  refine l_step (y_xor uk64 (et (gS rfl (gS rfl (gS rfl (gS rfl g0)))) rfl) (et g0 rfl) ?_ ?_) ?_
  repeat' first | assumption | refine rotl_lt64 ?_ (by decide) | refine x64 ?_ ?_ | refine and64 ?_ | exact not64 _
  repeat' first | assumption | refine rotl_lt64 ?_ (by decide) | refine x64 ?_ ?_ | refine and64 ?_ | exact not64 _
  refine l_step (y_nil (et (gS rfl (gS rfl (gS rfl (gS rfl (gS rfl (gS rfl g0)))))) rfl)) ?_
  refine l_step (y_idxAC 10 10 Hvaa.underlying318 sz_26 (et g0 rfl) rfl rfl rfl) ?_
  refine l_effN (e_store sz_26 (et g0 rfl) (cellsV (et (gS rfl (gS rfl g0)) rfl) rfl) rfl (by intro v hv; simp at hv; subst hv; rfl) kA (by exact Nat.le_of_ble_eq_true rfl)) (fun v91 w91 h91 => ?_)
  obtain ⟨rfl, x91⟩ := h91
  replace kA := x91.blk
  replace U := U.st x91 (.inl (by first | rfl | (simp; done)))
  replace kA : Blk w91 b (uL [s0 ^^^ ((18446744073709551615 - s1) &&& s2), s1 ^^^ ((18446744073709551615 - s2) &&& s3), s2 ^^^ ((18446744073709551615 - s3) &&& s4), s3 ^^^ ((18446744073709551615 - s4) &&& s0), s4 ^^^ ((18446744073709551615 - s0) &&& s1), t0 ^^^ ((18446744073709551615 - t1) &&& t2), t1 ^^^ ((18446744073709551615 - t2) &&& t3), t2 ^^^ ((18446744073709551615 - t3) &&& t4), t3 ^^^ ((18446744073709551615 - t4) &&& t0), t4 ^^^ ((18446744073709551615 - t0) &&& t1), u0 ^^^ ((18446744073709551615 - u1) &&& u2), a11, a12, a13, a14, a15, a16, a17, a18, a19, a20, a21, a22, a23, a24]).toArray := kA
  refine l_nil ?_
  refine hK90 _ _ ?_
  refine fg16 0 22 23 24 25 26 27 28 29 30 31 32 33 34 35 36 (gS rfl (gS rfl (gS rfl (gS rfl (gS rfl (gS rfl (gS rfl (gS rfl (gS rfl (gS rfl (gS rfl (gS rfl (gS rfl (gS rfl (gS rfl (gS rfl (gS rfl (gS rfl (gS rfl (gS rfl (gS rfl (gS rfl (gS rfl (gS rfl g0)))))))))))))))))))))))) (gS rfl (gS rfl (gS rfl (gS rfl (gS rfl (gS rfl (gS rfl (gS rfl (gS rfl (gS rfl (gS rfl (gS rfl (gS rfl (gS rfl (gS rfl (gS rfl (gS rfl (gS rfl (gS rfl (gS rfl (gS rfl (gS rfl (gS rfl g0))))))))))))))))))))))) (gS rfl (gS rfl (gS rfl (gS rfl (gS rfl (gS rfl (gS rfl (gS rfl (gS rfl (gS rfl (gS rfl (gS rfl (gS rfl (gS rfl (gS rfl (gS rfl (gS rfl (gS rfl (gS rfl (gS rfl (gS rfl (gS rfl g0)))))))))))))))))))))) (gS rfl (gS rfl (gS rfl (gS rfl (gS rfl (gS rfl (gS rfl (gS rfl (gS rfl (gS rfl (gS rfl (gS rfl (gS rfl (gS rfl (gS rfl (gS rfl (gS rfl (gS rfl (gS rfl (gS rfl (gS rfl g0))))))))))))))))))))) (gS rfl (gS rfl (gS rfl (gS rfl (gS rfl (gS rfl (gS rfl (gS rfl (gS rfl (gS rfl (gS rfl (gS rfl (gS rfl (gS rfl (gS rfl (gS rfl (gS rfl (gS rfl (gS rfl (gS rfl g0)))))))))))))))))))) (gS rfl (gS rfl (gS rfl (gS rfl (gS rfl (gS rfl (gS rfl (gS rfl (gS rfl (gS rfl (gS rfl (gS rfl (gS rfl (gS rfl (gS rfl (gS rfl (gS rfl (gS rfl (gS rfl g0))))))))))))))))))) (gS rfl (gS rfl (gS rfl (gS rfl (gS rfl (gS rfl (gS rfl (gS rfl (gS rfl (gS rfl (gS rfl (gS rfl (gS rfl (gS rfl (gS rfl (gS rfl (gS rfl (gS rfl g0)))))))))))))))))) (gS rfl (gS rfl (gS rfl (gS rfl (gS rfl (gS rfl (gS rfl (gS rfl (gS rfl (gS rfl (gS rfl (gS rfl (gS rfl (gS rfl (gS rfl (gS rfl (gS rfl g0))))))))))))))))) (gS rfl (gS rfl (gS rfl (gS rfl (gS rfl (gS rfl (gS rfl (gS rfl (gS rfl (gS rfl (gS rfl (gS rfl (gS rfl (gS rfl (gS rfl (gS rfl g0)))))))))))))))) (gS rfl (gS rfl (gS rfl (gS rfl (gS rfl (gS rfl (gS rfl (gS rfl (gS rfl (gS rfl (gS rfl (gS rfl (gS rfl (gS rfl (gS rfl g0))))))))))))))) (gS rfl (gS rfl (gS rfl (gS rfl (gS rfl (gS rfl (gS rfl (gS rfl (gS rfl (gS rfl (gS rfl (gS rfl (gS rfl (gS rfl g0)))))))))))))) (gS rfl (gS rfl (gS rfl (gS rfl (gS rfl (gS rfl (gS rfl (gS rfl (gS rfl (gS rfl (gS rfl (gS rfl (gS rfl g0))))))))))))) (gS rfl (gS rfl (gS rfl (gS rfl (gS rfl (gS rfl (gS rfl (gS rfl (gS rfl (gS rfl (gS rfl (gS rfl g0)))))))))))) (gS rfl (gS rfl (gS rfl (gS rfl (gS rfl (gS rfl (gS rfl (gS rfl (gS rfl (gS rfl (gS rfl g0))))))))))) (gS rfl (gS rfl (gS rfl (gS rfl (gS rfl (gS rfl (gS rfl (gS rfl (gS rfl (gS rfl g0)))))))))) (gS rfl (gS rfl (gS rfl (gS rfl (gS rfl (gS rfl (gS rfl (gS rfl (gS rfl g0))))))))) (fun g => ?_)
  refine c_seq (fun K92 hK92 => ?_)
  refine c_region ?_
  refine l_step (y_moveV (et (gS rfl (gS rfl (gS rfl (gS rfl (gS rfl (gS rfl (gS rfl (gS rfl (gS rfl (gS rfl (gS rfl (gS rfl (gS rfl (gS rfl (gS rfl g0))))))))))))))) rfl)) ?_
  refine l_step (y_moveV (et (gS rfl (gS rfl (gS rfl (gS rfl (gS rfl (gS rfl (gS rfl (gS rfl (gS rfl (gS rfl (gS rfl (gS rfl (gS rfl (gS rfl g0)))))))))))))) rfl)) ?_
  refine l_step (y_moveV (et (gS rfl (gS rfl (gS rfl (gS rfl (gS rfl (gS rfl (gS rfl (gS rfl (gS rfl (gS rfl (gS rfl (gS rfl (gS rfl (gS rfl g0)))))))))))))) rfl)) ?_
  refine l_step (y_not64 (et g0 rfl) ?_) ?_
  first | exact limb_lt _ _ | omega
  refine l_step (y_moveV (et (gS rfl (gS rfl (gS rfl (gS rfl (gS rfl (gS rfl (gS rfl (gS rfl (gS rfl (gS rfl (gS rfl (gS rfl (gS rfl (gS rfl (gS rfl g0))))))))))))))) rfl)) ?_
  refine l_step (y_and uk64 (et (gS rfl g0) rfl) (et g0 rfl) ?_ ?_) ?_
  repeat' first | assumption | refine rotl_lt64 ?_ (by decide) | refine x64 ?_ ?_ | refine and64 ?_ | exact not64 _
  repeat' first | assumption | refine rotl_lt64 ?_ (by decide) | refine x64 ?_ ?_ | refine and64 ?_ | exact not64 _
  refine l_step (y_xor uk64 (et (gS rfl (gS rfl (gS rfl (gS rfl g0)))) rfl) (et g0 rfl) ?_ ?_) ?_
  repeat' first | assumption | refine rotl_lt64 ?_ (by decide) | refine x64 ?_ ?_ | refine and64 ?_ | exact not64 _
  repeat' first | assumption | refine rotl_lt64 ?_ (by decide) | refine x64 ?_ ?_ | refine and64 ?_ | exact not64 _
  refine l_step (y_nil (et (gS rfl (gS rfl (gS rfl (gS rfl (gS rfl (gS rfl g0)))))) rfl)) ?_
  refine l_step (y_idxAC 11 11 Hvaa.underlying318 sz_26 (et g0 rfl) rfl rfl rfl) ?_
  refine l_effN (e_store sz_26 (et g0 rfl) (cellsV (et (gS rfl (gS rfl g0)) rfl) rfl) rfl (by intro v hv; simp at hv; subst hv; rfl) kA (by exact Nat.le_of_ble_eq_true rfl)) (fun v93 w93 h93 => ?_)
  obtain ⟨rfl, x93⟩ := h93
  replace kA := x93.blk
  replace U := U.st x93 (.inl (by first | rfl | (simp; done)))
  replace kA : Blk w93 b (uL [s0 ^^^ ((18446744073709551615 - s1) &&& s2), s1 ^^^ ((18446744073709551615 - s2) &&& s3), s2 ^^^ ((18446744073709551615 - s3) &&& s4), s3 ^^^ ((18446744073709551615 - s4) &&& s0), s4 ^^^ ((18446744073709551615 - s0) &&& s1), t0 ^^^ ((18446744073709551615 - t1) &&& t2), t1 ^^^ ((18446744073709551615 - t2) &&& t3), t2 ^^^ ((18446744073709551615 - t3) &&& t4), t3 ^^^ ((18446744073709551615 - t4) &&& t0), t4 ^^^ ((18446744073709551615 - t0) &&& t1), u0 ^^^ ((18446744073709551615 - u1) &&& u2), u1 ^^^ ((18446744073709551615 - u2) &&& u3), a12, a13, a14, a15, a16, a17, a18, a19, a20, a21, a22, a23, a24]).toArray := kA
  refine l_nil ?_
  refine hK92 _ _ ?_
  refine fg16 0 22 23 24 25 26 27 28 29 30 31 32 33 34 35 36 (gS rfl (gS rfl (gS rfl (gS rfl (gS rfl (gS rfl (gS rfl (gS rfl (gS rfl (gS rfl (gS rfl (gS rfl (gS rfl (gS rfl (gS rfl (gS rfl (gS rfl (gS rfl (gS rfl (gS rfl (gS rfl (gS rfl (gS rfl (gS rfl g0)))))))))))))))))))))))) (gS rfl (gS rfl (gS rfl (gS rfl (gS rfl (gS rfl (gS rfl (gS rfl (gS rfl (gS rfl (gS rfl (gS rfl (gS rfl (gS rfl (gS rfl (gS rfl (gS rfl (gS rfl (gS rfl (gS rfl (gS rfl (gS rfl (gS rfl g0))))))))))))))))))))))) (gS rfl (gS rfl (gS rfl (gS rfl (gS rfl (gS rfl (gS rfl (gS rfl (gS rfl (gS rfl (gS rfl (gS rfl (gS rfl (gS rfl (gS rfl (gS rfl (gS rfl (gS rfl (gS rfl (gS rfl (gS rfl (gS rfl g0)))))))))))))))))))))) (gS rfl (gS rfl (gS rfl (gS rfl (gS rfl (gS rfl (gS rfl (gS rfl (gS rfl (gS rfl (gS rfl (gS rfl (gS rfl (gS rfl (gS rfl (gS rfl (gS rfl (gS rfl (gS rfl (gS rfl (gS rfl g0))))))))))))))))))))) (gS rfl (gS rfl (gS rfl (gS rfl (gS rfl (gS rfl (gS rfl (gS rfl (gS rfl (gS rfl (gS rfl (gS rfl (gS rfl (gS rfl (gS rfl (gS rfl (gS rfl (gS rfl (gS rfl (gS rfl g0)))))))))))))))))))) (gS rfl (gS rfl (gS rfl (gS rfl (gS rfl (gS rfl (gS rfl (gS rfl (gS rfl (gS rfl (gS rfl (gS rfl (gS rfl (gS rfl (gS rfl (gS rfl (gS rfl (gS rfl (gS rfl g0))))))))))))))))))) (gS rfl (gS rfl (gS rfl (gS rfl (gS rfl (gS rfl (gS rfl (gS rfl (gS rfl (gS rfl (gS rfl (gS rfl (gS rfl (gS rfl (gS rfl (gS rfl (gS rfl (gS rfl g0)))))))))))))))))) (gS rfl (gS rfl (gS rfl (gS rfl (gS rfl (gS rfl (gS rfl (gS rfl (gS rfl (gS rfl (gS rfl (gS rfl (gS rfl (gS rfl (gS rfl (gS rfl (gS rfl g0))))))))))))))))) (gS rfl (gS rfl (gS rfl (gS rfl (gS rfl (gS rfl (gS rfl (gS rfl (gS rfl (gS rfl (gS rfl (gS rfl (gS rfl (gS rfl (gS rfl (gS rfl g0)))))))))))))))) (gS rfl (gS rfl (gS rfl (gS rfl (gS rfl (gS rfl (gS rfl (gS rfl (gS rfl (gS rfl (gS rfl (gS rfl (gS rfl (gS rfl (gS rfl g0))))))))))))))) (gS rfl (gS rfl (gS rfl (gS rfl (gS rfl (gS rfl (gS rfl (gS rfl (gS rfl (gS rfl (gS rfl (gS rfl (gS rfl (gS rfl g0)))))))))))))) (gS rfl (gS rfl (gS rfl (gS rfl (gS rfl (gS rfl (gS rfl (gS rfl (gS rfl (gS rfl (gS rfl (gS rfl (gS rfl g0))))))))))))) (gS rfl (gS rfl (gS rfl (gS rfl (gS rfl (gS rfl (gS rfl (gS rfl (gS rfl (gS rfl (gS rfl (gS rfl g0)))))))))))) (gS rfl (gS rfl (gS rfl (gS rfl (gS rfl (gS rfl (gS rfl (gS rfl (gS rfl (gS rfl (gS rfl g0))))))))))) (gS rfl (gS rfl (gS rfl (gS rfl (gS rfl (gS rfl (gS rfl (gS rfl (gS rfl (gS rfl g0)))))))))) (gS rfl (gS rfl (gS rfl (gS rfl (gS rfl (gS rfl (gS rfl (gS rfl (gS rfl g0))))))))) (fun g => ?_)
  refine c_seq (fun K94 hK94 => ?_)
  refine c_region ?_
  refine l_step (y_moveV (et (gS rfl (gS rfl (gS rfl (gS rfl (gS rfl (gS rfl (gS rfl (gS rfl (gS rfl (gS rfl (gS rfl (gS rfl (gS rfl (gS rfl (gS rfl g0))))))))))))))) rfl)) ?_
  refine l_step (y_moveV (et (gS rfl (gS rfl (gS rfl (gS rfl (gS rfl (gS rfl (gS rfl (gS rfl (gS rfl (gS rfl (gS rfl (gS rfl (gS rfl g0))))))))))))) rfl)) ?_
  refine l_step (y_moveV (et (gS rfl (gS rfl (gS rfl (gS rfl (gS rfl (gS rfl (gS rfl (gS rfl (gS rfl (gS rfl (gS rfl (gS rfl (gS rfl g0))))))))))))) rfl)) ?_
  refine l_step (y_not64 (et g0 rfl) ?_) ?_
  first | exact limb_lt _ _ | omega
  refine l_step (y_moveV (et (gS rfl (gS rfl (gS rfl (gS rfl (gS rfl (gS rfl (gS rfl (gS rfl (gS rfl (gS rfl (gS rfl (gS rfl (gS rfl (gS rfl g0)))))))))))))) rfl)) ?_
  refine l_step (y_and uk64 (et (gS rfl g0) rfl) (et g0 rfl) ?_ ?_) ?_
  repeat' first | assumption | refine rotl_lt64 ?_ (by decide) | refine x64 ?_ ?_ | refine and64 ?_ | exact not64 _
  repeat' first | assumption | refine rotl_lt64 ?_ (by decide) | refine x64 ?_ ?_ | refine and64 ?_ | exact not64 _
  refine l_step (y_xor uk64 (et (gS rfl (gS rfl (gS rfl (gS rfl g0)))) rfl) (et g0 rfl) ?_ ?_) ?_
  repeat' first | assumption | refine rotl_lt64 ?_ (by decide) | refine x64 ?_ ?_ | refine and64 ?_ | exact not64 _
  repeat' first | assumption | refine rotl_lt64 ?_ (by decide) | refine x64 ?_ ?_ | refine and64 ?_ | exact not64 _
  refine l_step (y_nil (et (gS rfl (gS rfl (gS rfl (gS rfl (gS rfl (gS rfl g0)))))) rfl)) ?_
  refine l_step (y_idxAC 12 12 Hvaa.underlying318 sz_26 (et g0 rfl) rfl rfl rfl) ?_
  refine l_effN (e_store sz_26 (et g0 rfl) (cellsV (et (gS rfl (gS rfl g0)) rfl) rfl) rfl (by intro v hv; simp at hv; subst hv; rfl) kA (by exact Nat.le_of_ble_eq_true rfl)) (fun v95 w95 h95 => ?_)
  obtain ⟨rfl, x95⟩ := h95
  replace kA := x95.blk
  replace U := U.st x95 (.inl (by first | rfl | (simp; done)))
  replace kA : Blk w95 b (uL [s0 ^^^ ((18446744073709551615 - s1) &&& s2), s1 ^^^ ((18446744073709551615 - s2) &&& s3), s2 ^^^ ((18446744073709551615 - s3) &&& s4), s3 ^^^ ((18446744073709551615 - s4) &&& s0), s4 ^^^ ((18446744073709551615 - s0) &&& s1), t0 ^^^ ((18446744073709551615 - t1) &&& t2), t1 ^^^ ((18446744073709551615 - t2) &&& t3), t2 ^^^ ((18446744073709551615 - t3) &&& t4), t3 ^^^ ((18446744073709551615 - t4) &&& t0), t4 ^^^ ((18446744073709551615 - t0) &&& t1), u0 ^^^ ((18446744073709551615 - u1) &&& u2), u1 ^^^ ((18446744073709551615 - u2) &&& u3), u2 ^^^ ((18446744073709551615 - u3) &&& u4), a13, a14, a15, a16, a17, a18, a19, a20, a21, a22, a23, a24]).toArray := kA
  refine l_nil ?_
  refine hK94 _ _ ?_
  refine fg15 0 22 23 25 26 27 28 29 30 31 32 33 34 35 36 (gS rfl (gS rfl (gS rfl (gS rfl (gS rfl (gS rfl (gS rfl (gS rfl (gS rfl (gS rfl (gS rfl (gS rfl (gS rfl (gS rfl (gS rfl (gS rfl (gS rfl (gS rfl (gS rfl (gS rfl (gS rfl (gS rfl (gS rfl (gS rfl g0)))))))))))))))))))))))) (gS rfl (gS rfl (gS rfl (gS rfl (gS rfl (gS rfl (gS rfl (gS rfl (gS rfl (gS rfl (gS rfl (gS rfl (gS rfl (gS rfl (gS rfl (gS rfl (gS rfl (gS rfl (gS rfl (gS rfl (gS rfl (gS rfl (gS rfl g0))))))))))))))))))))))) (gS rfl (gS rfl (gS rfl (gS rfl (gS rfl (gS rfl (gS rfl (gS rfl (gS rfl (gS rfl (gS rfl (gS rfl (gS rfl (gS rfl (gS rfl (gS rfl (gS rfl (gS rfl (gS rfl (gS rfl (gS rfl (gS rfl g0)))))))))))))))))))))) (gS rfl (gS rfl (gS rfl (gS rfl (gS rfl (gS rfl (gS rfl (gS rfl (gS rfl (gS rfl (gS rfl (gS rfl (gS rfl (gS rfl (gS rfl (gS rfl (gS rfl (gS rfl (gS rfl (gS rfl g0)))))))))))))))))))) (gS rfl (gS rfl (gS rfl (gS rfl (gS rfl (gS rfl (gS rfl (gS rfl (gS rfl (gS rfl (gS rfl (gS rfl (gS rfl (gS rfl (gS rfl (gS rfl (gS rfl (gS rfl (gS rfl g0))))))))))))))))))) (gS rfl (gS rfl (gS rfl (gS rfl (gS rfl (gS rfl (gS rfl (gS rfl (gS rfl (gS rfl (gS rfl (gS rfl (gS rfl (gS rfl (gS rfl (gS rfl (gS rfl (gS rfl g0)))))))))))))))))) (gS rfl (gS rfl (gS rfl (gS rfl (gS rfl (gS rfl (gS rfl (gS rfl (gS rfl (gS rfl (gS rfl (gS rfl (gS rfl (gS rfl (gS rfl (gS rfl (gS rfl g0))))))))))))))))) (gS rfl (gS rfl (gS rfl (gS rfl (gS rfl (gS rfl (gS rfl (gS rfl (gS rfl (gS rfl (gS rfl (gS rfl (gS rfl (gS rfl (gS rfl (gS rfl g0)))))))))))))))) (gS rfl (gS rfl (gS rfl (gS rfl (gS rfl (gS rfl (gS rfl (gS rfl (gS rfl (gS rfl (gS rfl (gS rfl (gS rfl (gS rfl (gS rfl g0))))))))))))))) (gS rfl (gS rfl (gS rfl (gS rfl (gS rfl (gS rfl (gS rfl (gS rfl (gS rfl (gS rfl (gS rfl (gS rfl (gS rfl (gS rfl g0)))))))))))))) (gS rfl (gS rfl (gS rfl (gS rfl (gS rfl (gS rfl (gS rfl (gS rfl (gS rfl (gS rfl (gS rfl (gS rfl (gS rfl g0))))))))))))) (gS rfl (gS rfl (gS rfl (gS rfl (gS rfl (gS rfl (gS rfl (gS rfl (gS rfl (gS rfl (gS rfl (gS rfl g0)))))))))))) (gS rfl (gS rfl (gS rfl (gS rfl (gS rfl (gS rfl (gS rfl (gS rfl (gS rfl (gS rfl (gS rfl g0))))))))))) (gS rfl (gS rfl (gS rfl (gS rfl (gS rfl (gS rfl (gS rfl (gS rfl (gS rfl (gS rfl g0)))))))))) (gS rfl (gS rfl (gS rfl (gS rfl (gS rfl (gS rfl (gS rfl (gS rfl (gS rfl g0))))))))) (fun g => ?_)
  refine c_seq (fun K96 hK96 => ?_)
  refine c_region ?_
  refine l_step (y_moveV (et (gS rfl (gS rfl (gS rfl (gS rfl (gS rfl (gS rfl (gS rfl (gS rfl (gS rfl (gS rfl (gS rfl (gS rfl (gS rfl (gS rfl g0)))))))))))))) rfl)) ?_
  refine l_step (y_moveV (et (gS rfl (gS rfl (gS rfl (gS rfl (gS rfl (gS rfl (gS rfl (gS rfl (gS rfl (gS rfl (gS rfl (gS rfl g0)))))))))))) rfl)) ?_
  refine l_step (y_moveV (et (gS rfl (gS rfl (gS rfl (gS rfl (gS rfl (gS rfl (gS rfl (gS rfl (gS rfl (gS rfl (gS rfl (gS rfl g0)))))))))))) rfl)) ?_
  refine l_step (y_not64 (et g0 rfl) ?_) ?_
  first | exact limb_lt _ _ | omega
  refine l_step (y_moveV (et (gS rfl (gS rfl (gS rfl (gS rfl (gS rfl (gS rfl (gS rfl (gS rfl (gS rfl (gS rfl (gS rfl (gS rfl (gS rfl (gS rfl (gS rfl (gS rfl (gS rfl g0))))))))))))))))) rfl)) ?_
  refine l_step (y_and uk64 (et (gS rfl g0) rfl) (et g0 rfl) ?_ ?_) ?_
  repeat' first | assumption | refine rotl_lt64 ?_ (by decide) | refine x64 ?_ ?_ | refine and64 ?_ | exact not64 _
  repeat' first | assumption | refine rotl_lt64 ?_ (by decide) | refine x64 ?_ ?_ | refine and64 ?_ | exact not64 _
  refine l_step (y_xor uk64 (et (gS rfl (gS rfl (gS rfl (gS rfl g0)))) rfl) (et g0 rfl) ?_ ?_) ?_
  repeat' first | assumption | refine rotl_lt64 ?_ (by decide) | refine x64 ?_ ?_ | refine and64 ?_ | exact not64 _
  repeat' first | assumption | refine rotl_lt64 ?_ (by decide) | refine x64 ?_ ?_ | refine and64 ?_ | exact not64 _
  refine l_step (y_nil (et (gS rfl (gS rfl (gS rfl (gS rfl (gS rfl (gS rfl g0)))))) rfl)) ?_
  refine l_step (y_idxAC 13 13 Hvaa.underlying318 sz_26 (et g0 rfl) rfl rfl rfl) ?_
  refine l_effN (e_store sz_26 (et g0 rfl) (cellsV (et (gS rfl (gS rfl g0)) rfl) rfl) rfl (by intro v hv; simp at hv; subst hv; rfl) kA (by exact Nat.le_of_ble_eq_true rfl)) (fun v97 w97 h97 => ?_)
  obtain ⟨rfl, x97⟩ := h97
  replace kA := x97.blk
  replace U := U.st x97 (.inl (by first | rfl | (simp; done)))
  replace kA : Blk w97 b (uL [s0 ^^^ ((18446744073709551615 - s1) &&& s2), s1 ^^^ ((18446744073709551615 - s2) &&& s3), s2 ^^^ ((18446744073709551615 - s3) &&& s4), s3 ^^^ ((18446744073709551615 - s4) &&& s0), s4 ^^^ ((18446744073709551615 - s0) &&& s1), t0 ^^^ ((18446744073709551615 - t1) &&& t2), t1 ^^^ ((18446744073709551615 - t2) &&& t3), t2 ^^^ ((18446744073709551615 - t3) &&& t4), t3 ^^^ ((18446744073709551615 - t4) &&& t0), t4 ^^^ ((18446744073709551615 - t0) &&& t1), u0 ^^^ ((18446744073709551615 - u1) &&& u2), u1 ^^^ ((18446744073709551615 - u2) &&& u3), u2 ^^^ ((18446744073709551615 - u3) &&& u4), u3 ^^^ ((18446744073709551615 - u4) &&& u0), a14, a15, a16, a17, a18, a19, a20, a21, a22, a23, a24]).toArray := kA
  refine l_nil ?_
  refine hK96 _ _ ?_
  refine fg14 0 22 23 26 27 28 29 30 31 32 33 34 35 36 (gS rfl (gS rfl (gS rfl (gS rfl (gS rfl (gS rfl (gS rfl (gS rfl (gS rfl (gS rfl (gS rfl (gS rfl (gS rfl (gS rfl (gS rfl (gS rfl (gS rfl (gS rfl (gS rfl (gS rfl (gS rfl (gS rfl (gS rfl g0))))))))))))))))))))))) (gS rfl (gS rfl (gS rfl (gS rfl (gS rfl (gS rfl (gS rfl (gS rfl (gS rfl (gS rfl (gS rfl (gS rfl (gS rfl (gS rfl (gS rfl (gS rfl (gS rfl (gS rfl (gS rfl (gS rfl (gS rfl (gS rfl g0)))))))))))))))))))))) (gS rfl (gS rfl (gS rfl (gS rfl (gS rfl (gS rfl (gS rfl (gS rfl (gS rfl (gS rfl (gS rfl (gS rfl (gS rfl (gS rfl (gS rfl (gS rfl (gS rfl (gS rfl (gS rfl (gS rfl (gS rfl g0))))))))))))))))))))) (gS rfl (gS rfl (gS rfl (gS rfl (gS rfl (gS rfl (gS rfl (gS rfl (gS rfl (gS rfl (gS rfl (gS rfl (gS rfl (gS rfl (gS rfl (gS rfl (gS rfl (gS rfl (gS rfl g0))))))))))))))))))) (gS rfl (gS rfl (gS rfl (gS rfl (gS rfl (gS rfl (gS rfl (gS rfl (gS rfl (gS rfl (gS rfl (gS rfl (gS rfl (gS rfl (gS rfl (gS rfl (gS rfl (gS rfl g0)))))))))))))))))) (gS rfl (gS rfl (gS rfl (gS rfl (gS rfl (gS rfl (gS rfl (gS rfl (gS rfl (gS rfl (gS rfl (gS rfl (gS rfl (gS rfl (gS rfl (gS rfl (gS rfl g0))))))))))))))))) (gS rfl (gS rfl (gS rfl (gS rfl (gS rfl (gS rfl (gS rfl (gS rfl (gS rfl (gS rfl (gS rfl (gS rfl (gS rfl (gS rfl (gS rfl (gS rfl g0)))))))))))))))) (gS rfl (gS rfl (gS rfl (gS rfl (gS rfl (gS rfl (gS rfl (gS rfl (gS rfl (gS rfl (gS rfl (gS rfl (gS rfl (gS rfl (gS rfl g0))))))))))))))) (gS rfl (gS rfl (gS rfl (gS rfl (gS rfl (gS rfl (gS rfl (gS rfl (gS rfl (gS rfl (gS rfl (gS rfl (gS rfl (gS rfl g0)))))))))))))) (gS rfl (gS rfl (gS rfl (gS rfl (gS rfl (gS rfl (gS rfl (gS rfl (gS rfl (gS rfl (gS rfl (gS rfl (gS rfl g0))))))))))))) (gS rfl (gS rfl (gS rfl (gS rfl (gS rfl (gS rfl (gS rfl (gS rfl (gS rfl (gS rfl (gS rfl (gS rfl g0)))))))))))) (gS rfl (gS rfl (gS rfl (gS rfl (gS rfl (gS rfl (gS rfl (gS rfl (gS rfl (gS rfl (gS rfl g0))))))))))) (gS rfl (gS rfl (gS rfl (gS rfl (gS rfl (gS rfl (gS rfl (gS rfl (gS rfl (gS rfl g0)))))))))) (gS rfl (gS rfl (gS rfl (gS rfl (gS rfl (gS rfl (gS rfl (gS rfl (gS rfl g0))))))))) (fun g => ?_)
  refine c_seq (fun K98 hK98 => ?_)
  refine c_region ?_
  refine l_step (y_moveV (et (gS rfl (gS rfl (gS rfl (gS rfl (gS rfl (gS rfl (gS rfl (gS rfl (gS rfl (gS rfl (gS rfl (gS rfl (gS rfl g0))))))))))))) rfl)) ?_
  refine l_step (y_moveV (et (gS rfl (gS rfl (gS rfl (gS rfl (gS rfl (gS rfl (gS rfl (gS rfl (gS rfl (gS rfl (gS rfl g0))))))))))) rfl)) ?_
  refine l_step (y_moveV (et (gS rfl (gS rfl (gS rfl (gS rfl (gS rfl (gS rfl (gS rfl (gS rfl (gS rfl (gS rfl (gS rfl (gS rfl (gS rfl (gS rfl g0)))))))))))))) rfl)) ?_
  refine l_step (y_not64 (et g0 rfl) ?_) ?_
  first | exact limb_lt _ _ | omega
  refine l_step (y_moveV (et (gS rfl (gS rfl (gS rfl (gS rfl (gS rfl (gS rfl (gS rfl (gS rfl (gS rfl (gS rfl (gS rfl (gS rfl (gS rfl (gS rfl (gS rfl g0))))))))))))))) rfl)) ?_
  refine l_step (y_and uk64 (et (gS rfl g0) rfl) (et g0 rfl) ?_ ?_) ?_
  repeat' first | assumption | refine rotl_lt64 ?_ (by decide) | refine x64 ?_ ?_ | refine and64 ?_ | exact not64 _
  repeat' first | assumption | refine rotl_lt64 ?_ (by decide) | refine x64 ?_ ?_ | refine and64 ?_ | exact not64 _
  refine l_step (y_xor uk64 (et (gS rfl (gS rfl (gS rfl (gS rfl g0)))) rfl) (et g0 rfl) ?_ ?_) ?_
  repeat' first | assumption | refine rotl_lt64 ?_ (by decide) | refine x64 ?_ ?_ | refine and64 ?_ | exact not64 _
  repeat' first | assumption | refine rotl_lt64 ?_ (by decide) | refine x64 ?_ ?_ | refine and64 ?_ | exact not64 _
  refine l_step (y_nil (et (gS rfl (gS rfl (gS rfl (gS rfl (gS rfl (gS rfl g0)))))) rfl)) ?_
  refine l_step (y_idxAC 14 14 Hvaa.underlying318 sz_26 (et g0 rfl) rfl rfl rfl) ?_
  refine l_effN (e_store sz_26 (et g0 rfl) (cellsV (et (gS rfl (gS rfl g0)) rfl) rfl) rfl (by intro v hv; simp at hv; subst hv; rfl) kA (by exact Nat.le_of_ble_eq_true rfl)) (fun v99 w99 h99 => ?_)
  obtain ⟨rfl, x99⟩ := h99
  replace kA := x99.blk
  replace U := U.st x99 (.inl (by first | rfl | (simp; done)))
  replace kA : Blk w99 b (uL [s0 ^^^ ((18446744073709551615 - s1) &&& s2), s1 ^^^ ((18446744073709551615 - s2) &&& s3), s2 ^^^ ((18446744073709551615 - s3) &&& s4), s3 ^^^ ((18446744073709551615 - s4) &&& s0), s4 ^^^ ((18446744073709551615 - s0) &&& s1), t0 ^^^ ((18446744073709551615 - t1) &&& t2), t1 ^^^ ((18446744073709551615 - t2) &&& t3), t2 ^^^ ((18446744073709551615 - t3) &&& t4), t3 ^^^ ((18446744073709551615 - t4) &&& t0), t4 ^^^ ((18446744073709551615 - t0) &&& t1), u0 ^^^ ((18446744073709551615 - u1) &&& u2), u1 ^^^ ((18446744073709551615 - u2) &&& u3), u2 ^^^ ((18446744073709551615 - u3) &&& u4), u3 ^^^ ((18446744073709551615 - u4) &&& u0), u4 ^^^ ((18446744073709551615 - u0) &&& u1), a15, a16, a17, a18, a19, a20, a21, a22, a23, a24]).toArray := kA
  refine l_nil ?_
  refine hK98 _ _ ?_
  refine fg11 0 27 28 29 30 31 32 33 34 35 36 (gS rfl (gS rfl (gS rfl (gS rfl (gS rfl (gS rfl (gS rfl (gS rfl (gS rfl (gS rfl (gS rfl (gS rfl (gS rfl (gS rfl (gS rfl (gS rfl (gS rfl (gS rfl (gS rfl (gS rfl (gS rfl (gS rfl g0)))))))))))))))))))))) (gS rfl (gS rfl (gS rfl (gS rfl (gS rfl (gS rfl (gS rfl (gS rfl (gS rfl (gS rfl (gS rfl (gS rfl (gS rfl (gS rfl (gS rfl (gS rfl (gS rfl (gS rfl g0)))))))))))))))))) (gS rfl (gS rfl (gS rfl (gS rfl (gS rfl (gS rfl (gS rfl (gS rfl (gS rfl (gS rfl (gS rfl (gS rfl (gS rfl (gS rfl (gS rfl (gS rfl (gS rfl g0))))))))))))))))) (gS rfl (gS rfl (gS rfl (gS rfl (gS rfl (gS rfl (gS rfl (gS rfl (gS rfl (gS rfl (gS rfl (gS rfl (gS rfl (gS rfl (gS rfl (gS rfl g0)))))))))))))))) (gS rfl (gS rfl (gS rfl (gS rfl (gS rfl (gS rfl (gS rfl (gS rfl (gS rfl (gS rfl (gS rfl (gS rfl (gS rfl (gS rfl (gS rfl g0))))))))))))))) (gS rfl (gS rfl (gS rfl (gS rfl (gS rfl (gS rfl (gS rfl (gS rfl (gS rfl (gS rfl (gS rfl (gS rfl (gS rfl (gS rfl g0)))))))))))))) (gS rfl (gS rfl (gS rfl (gS rfl (gS rfl (gS rfl (gS rfl (gS rfl (gS rfl (gS rfl (gS rfl (gS rfl (gS rfl g0))))))))))))) (gS rfl (gS rfl (gS rfl (gS rfl (gS rfl (gS rfl (gS rfl (gS rfl (gS rfl (gS rfl (gS rfl (gS rfl g0)))))))))))) (gS rfl (gS rfl (gS rfl (gS rfl (gS rfl (gS rfl (gS rfl (gS rfl (gS rfl (gS rfl (gS rfl g0))))))))))) (gS rfl (gS rfl (gS rfl (gS rfl (gS rfl (gS rfl (gS rfl (gS rfl (gS rfl (gS rfl g0)))))))))) (gS rfl (gS rfl (gS rfl (gS rfl (gS rfl (gS rfl (gS rfl (gS rfl (gS rfl g0))))))))) (fun g => ?_)
  refine c_seq (fun K100 hK100 => ?_)
  refine c_region ?_
  refine l_step (y_moveV (et (gS rfl (gS rfl (gS rfl (gS rfl (gS rfl (gS rfl (gS rfl (gS rfl (gS rfl (gS rfl g0)))))))))) rfl)) ?_
  refine l_step (y_moveV (et (gS rfl (gS rfl (gS rfl (gS rfl (gS rfl (gS rfl (gS rfl (gS rfl (gS rfl (gS rfl g0)))))))))) rfl)) ?_
  refine l_step (y_moveV (et (gS rfl (gS rfl (gS rfl (gS rfl (gS rfl (gS rfl (gS rfl (gS rfl (gS rfl (gS rfl g0)))))))))) rfl)) ?_
  refine l_step (y_not64 (et g0 rfl) ?_) ?_
  first | exact limb_lt _ _ | omega
  refine l_step (y_moveV (et (gS rfl (gS rfl (gS rfl (gS rfl (gS rfl (gS rfl (gS rfl (gS rfl (gS rfl (gS rfl (gS rfl g0))))))))))) rfl)) ?_
  refine l_step (y_and uk64 (et (gS rfl g0) rfl) (et g0 rfl) ?_ ?_) ?_
  repeat' first | assumption | refine rotl_lt64 ?_ (by decide) | refine x64 ?_ ?_ | refine and64 ?_ | exact not64 _
  repeat' first | assumption | refine rotl_lt64 ?_ (by decide) | refine x64 ?_ ?_ | refine and64 ?_ | exact not64 _
  refine l_step (y_xor uk64 (et (gS rfl (gS rfl (gS rfl (gS rfl g0)))) rfl) (et g0 rfl) ?_ ?_) ?_
  repeat' first | assumption | refine rotl_lt64 ?_ (by decide) | refine x64 ?_ ?_ | refine and64 ?_ | exact not64 _
  repeat' first | assumption | refine rotl_lt64 ?_ (by decide) | refine x64 ?_ ?_ | refine and64 ?_ | exact not64 _
  refine l_step (y_nil (et (gS rfl (gS rfl (gS rfl (gS rfl (gS rfl (gS rfl g0)))))) rfl)) ?_
  refine l_step (y_idxAC 15 15 Hvaa.underlying318 sz_26 (et g0 rfl) rfl rfl rfl) ?_
  refine l_effN (e_store sz_26 (et g0 rfl) (cellsV (et (gS rfl (gS rfl g0)) rfl) rfl) rfl (by intro v hv; simp at hv; subst hv; rfl) kA (by exact Nat.le_of_ble_eq_true rfl)) (fun v101 w101 h101 => ?_)
  obtain ⟨rfl, x101⟩ := h101
  replace kA := x101.blk
  replace U := U.st x101 (.inl (by first | rfl | (simp; done)))
  replace kA : Blk w101 b (uL [s0 ^^^ ((18446744073709551615 - s1) &&& s2), s1 ^^^ ((18446744073709551615 - s2) &&& s3), s2 ^^^ ((18446744073709551615 - s3) &&& s4), s3 ^^^ ((18446744073709551615 - s4) &&& s0), s4 ^^^ ((18446744073709551615 - s0) &&& s1), t0 ^^^ ((18446744073709551615 - t1) &&& t2), t1 ^^^ ((18446744073709551615 - t2) &&& t3), t2 ^^^ ((18446744073709551615 - t3) &&& t4), t3 ^^^ ((18446744073709551615 - t4) &&& t0), t4 ^^^ ((18446744073709551615 - t0) &&& t1), u0 ^^^ ((18446744073709551615 - u1) &&& u2), u1 ^^^ ((18446744073709551615 - u2) &&& u3), u2 ^^^ ((18446744073709551615 - u3) &&& u4), u3 ^^^ ((18446744073709551615 - u4) &&& u0), u4 ^^^ ((18446744073709551615 - u0) &&& u1), v0 ^^^ ((18446744073709551615 - v1) &&& v2), a16, a17, a18, a19, a20, a21, a22, a23, a24]).toArray := kA
  refine l_nil ?_
  refine hK100 _ _ ?_
  refine fg11 0 27 28 29 30 31 32 33 34 35 36 (gS rfl (gS rfl (gS rfl (gS rfl (gS rfl (gS rfl (gS rfl (gS rfl (gS rfl (gS rfl (gS rfl (gS rfl (gS rfl (gS rfl (gS rfl (gS rfl (gS rfl (gS rfl (gS rfl g0))))))))))))))))))) (gS rfl (gS rfl (gS rfl (gS rfl (gS rfl (gS rfl (gS rfl (gS rfl (gS rfl (gS rfl (gS rfl (gS rfl (gS rfl (gS rfl (gS rfl (gS rfl (gS rfl (gS rfl g0)))))))))))))))))) (gS rfl (gS rfl (gS rfl (gS rfl (gS rfl (gS rfl (gS rfl (gS rfl (gS rfl (gS rfl (gS rfl (gS rfl (gS rfl (gS rfl (gS rfl (gS rfl (gS rfl g0))))))))))))))))) (gS rfl (gS rfl (gS rfl (gS rfl (gS rfl (gS rfl (gS rfl (gS rfl (gS rfl (gS rfl (gS rfl (gS rfl (gS rfl (gS rfl (gS rfl (gS rfl g0)))))))))))))))) (gS rfl (gS rfl (gS rfl (gS rfl (gS rfl (gS rfl (gS rfl (gS rfl (gS rfl (gS rfl (gS rfl (gS rfl (gS rfl (gS rfl (gS rfl g0))))))))))))))) (gS rfl (gS rfl (gS rfl (gS rfl (gS rfl (gS rfl (gS rfl (gS rfl (gS rfl (gS rfl (gS rfl (gS rfl (gS rfl (gS rfl g0)))))))))))))) (gS rfl (gS rfl (gS rfl (gS rfl (gS rfl (gS rfl (gS rfl (gS rfl (gS rfl (gS rfl (gS rfl (gS rfl (gS rfl g0))))))))))))) (gS rfl (gS rfl (gS rfl (gS rfl (gS rfl (gS rfl (gS rfl (gS rfl (gS rfl (gS rfl (gS rfl (gS rfl g0)))))))))))) (gS rfl (gS rfl (gS rfl (gS rfl (gS rfl (gS rfl (gS rfl (gS rfl (gS rfl (gS rfl (gS rfl g0))))))))))) (gS rfl (gS rfl (gS rfl (gS rfl (gS rfl (gS rfl (gS rfl (gS rfl (gS rfl (gS rfl g0)))))))))) (gS rfl (gS rfl (gS rfl (gS rfl (gS rfl (gS rfl (gS rfl (gS rfl (gS rfl g0))))))))) (fun g => ?_)
  refine c_seq (fun K102 hK102 => ?_)
  refine c_region ?_
  refine l_step (y_moveV (et (gS rfl (gS rfl (gS rfl (gS rfl (gS rfl (gS rfl (gS rfl (gS rfl (gS rfl (gS rfl g0)))))))))) rfl)) ?_
  refine l_step (y_moveV (et (gS rfl (gS rfl (gS rfl (gS rfl (gS rfl (gS rfl (gS rfl (gS rfl (gS rfl g0))))))))) rfl)) ?_
  refine l_step (y_moveV (et (gS rfl (gS rfl (gS rfl (gS rfl (gS rfl (gS rfl (gS rfl (gS rfl (gS rfl g0))))))))) rfl)) ?_
  refine l_step (y_not64 (et g0 rfl) ?_) ?_
  first | exact limb_lt _ _ | omega
  refine l_step (y_moveV (et (gS rfl (gS rfl (gS rfl (gS rfl (gS rfl (gS rfl (gS rfl (gS rfl (gS rfl (gS rfl g0)))))))))) rfl)) ?_
  refine l_step (y_and uk64 (et (gS rfl g0) rfl) (et g0 rfl) ?_ ?_) ?_
  repeat' first | assumption | refine rotl_lt64 ?_ (by decide) | refine x64 ?_ ?_ | refine and64 ?_ | exact not64 _
  repeat' first | assumption | refine rotl_lt64 ?_ (by decide) | refine x64 ?_ ?_ | refine and64 ?_ | exact not64 _
  refine l_step (y_xor uk64 (et (gS rfl (gS rfl (gS rfl (gS rfl g0)))) rfl) (et g0 rfl) ?_ ?_) ?_
  repeat' first | assumption | refine rotl_lt64 ?_ (by decide) | refine x64 ?_ ?_ | refine and64 ?_ | exact not64 _
  repeat' first | assumption | refine rotl_lt64 ?_ (by decide) | refine x64 ?_ ?_ | refine and64 ?_ | exact not64 _
  refine l_step (y_nil (et (gS rfl (gS rfl (gS rfl (gS rfl (gS rfl (gS rfl g0)))))) rfl)) ?_
  refine l_step (y_idxAC 16 16 Hvaa.underlying318 sz_26 (et g0 rfl) rfl rfl rfl) ?_
  refine l_effN (e_store sz_26 (et g0 rfl) (cellsV (et (gS rfl (gS rfl g0)) rfl) rfl) rfl (by intro v hv; simp at hv; subst hv; rfl) kA (by exact Nat.le_of_ble_eq_true rfl)) (fun v103 w103 h103 => ?_)
  obtain ⟨rfl, x103⟩ := h103
  replace kA := x103.blk
  replace U := U.st x103 (.inl (by first | rfl | (simp; done)))
  replace kA : Blk w103 b (uL [s0 ^^^ ((18446744073709551615 - s1) &&& s2), s1 ^^^ ((18446744073709551615 - s2) &&& s3), s2 ^^^ ((18446744073709551615 - s3) &&& s4), s3 ^^^ ((18446744073709551615 - s4) &&& s0), s4 ^^^ ((18446744073709551615 - s0) &&& s1), t0 ^^^ ((18446744073709551615 - t1) &&& t2), t1 ^^^ ((18446744073709551615 - t2) &&& t3), t2 ^^^ ((18446744073709551615 - t3) &&& t4), t3 ^^^ ((18446744073709551615 - t4) &&& t0), t4 ^^^ ((18446744073709551615 - t0) &&& t1), u0 ^^^ ((18446744073709551615 - u1) &&& u2), u1 ^^^ ((18446744073709551615 - u2) &&& u3), u2 ^^^ ((18446744073709551615 - u3) &&& u4), u3 ^^^ ((18446744073709551615 - u4) &&& u0), u4 ^^^ ((18446744073709551615 - u0) &&& u1), v0 ^^^ ((18446744073709551615 - v1) &&& v2), v1 ^^^ ((18446744073709551615 - v2) &&& v3), a17, a18, a19, a20, a21, a22, a23, a24]).toArray := kA
  refine l_nil ?_
  refine hK102 _ _ ?_
  refine fg11 0 27 28 29 30 31 32 33 34 35 36 (gS rfl (gS rfl (gS rfl (gS rfl (gS rfl (gS rfl (gS rfl (gS rfl (gS rfl (gS rfl (gS rfl (gS rfl (gS rfl (gS rfl (gS rfl (gS rfl (gS rfl (gS rfl (gS rfl g0))))))))))))))))))) (gS rfl (gS rfl (gS rfl (gS rfl (gS rfl (gS rfl (gS rfl (gS rfl (gS rfl (gS rfl (gS rfl (gS rfl (gS rfl (gS rfl (gS rfl (gS rfl (gS rfl (gS rfl g0)))))))))))))))))) (gS rfl (gS rfl (gS rfl (gS rfl (gS rfl (gS rfl (gS rfl (gS rfl (gS rfl (gS rfl (gS rfl (gS rfl (gS rfl (gS rfl (gS rfl (gS rfl (gS rfl g0))))))))))))))))) (gS rfl (gS rfl (gS rfl (gS rfl (gS rfl (gS rfl (gS rfl (gS rfl (gS rfl (gS rfl (gS rfl (gS rfl (gS rfl (gS rfl (gS rfl (gS rfl g0)))))))))))))))) (gS rfl (gS rfl (gS rfl (gS rfl (gS rfl (gS rfl (gS rfl (gS rfl (gS rfl (gS rfl (gS rfl (gS rfl (gS rfl (gS rfl (gS rfl g0))))))))))))))) (gS rfl (gS rfl (gS rfl (gS rfl (gS rfl (gS rfl (gS rfl (gS rfl (gS rfl (gS rfl (gS rfl (gS rfl (gS rfl (gS rfl g0)))))))))))))) (gS rfl (gS rfl (gS rfl (gS rfl (gS rfl (gS rfl (gS rfl (gS rfl (gS rfl (gS rfl (gS rfl (gS rfl (gS rfl g0))))))))))))) (gS rfl (gS rfl (gS rfl (gS rfl (gS rfl (gS rfl (gS rfl (gS rfl (gS rfl (gS rfl (gS rfl (gS rfl g0)))))))))))) (gS rfl (gS rfl (gS rfl (gS rfl (gS rfl (gS rfl (gS rfl (gS rfl (gS rfl (gS rfl (gS rfl g0))))))))))) (gS rfl (gS rfl (gS rfl (gS rfl (gS rfl (gS rfl (gS rfl (gS rfl (gS rfl (gS rfl g0)))))))))) (gS rfl (gS rfl (gS rfl (gS rfl (gS rfl (gS rfl (gS rfl (gS rfl (gS rfl g0))))))))) (fun g => ?_)
  refine c_seq (fun K104 hK104 => ?_)
  refine c_region ?_
  refine l_step (y_moveV (et (gS rfl (gS rfl (gS rfl (gS rfl (gS rfl (gS rfl (gS rfl (gS rfl (gS rfl (gS rfl g0)))))))))) rfl)) ?_
  refine l_step (y_moveV (et (gS rfl (gS rfl (gS rfl (gS rfl (gS rfl (gS rfl (gS rfl (gS rfl g0)))))))) rfl)) ?_
  refine l_step (y_moveV (et (gS rfl (gS rfl (gS rfl (gS rfl (gS rfl (gS rfl (gS rfl (gS rfl g0)))))))) rfl)) ?_
  refine l_step (y_not64 (et g0 rfl) ?_) ?_
  first | exact limb_lt _ _ | omega
  refine l_step (y_moveV (et (gS rfl (gS rfl (gS rfl (gS rfl (gS rfl (gS rfl (gS rfl (gS rfl (gS rfl g0))))))))) rfl)) ?_
  refine l_step (y_and uk64 (et (gS rfl g0) rfl) (et g0 rfl) ?_ ?_) ?_
  repeat' first | assumption | refine rotl_lt64 ?_ (by decide) | refine x64 ?_ ?_ | refine and64 ?_ | exact not64 _
  repeat' first | assumption | refine rotl_lt64 ?_ (by decide) | refine x64 ?_ ?_ | refine and64 ?_ | exact not64 _
  refine l_step (y_xor uk64 (et (gS rfl (gS rfl (gS rfl (gS rfl g0)))) rfl) (et g0 rfl) ?_ ?_) ?_
  repeat' first | assumption | refine rotl_lt64 ?_ (by decide) | refine x64 ?_ ?_ | refine and64 ?_ | exact not64 _
  repeat' first | assumption | refine rotl_lt64 ?_ (by decide) | refine x64 ?_ ?_ | refine and64 ?_ | exact not64 _
  refine l_step (y_nil (et (gS rfl (gS rfl (gS rfl (gS rfl (gS rfl (gS rfl g0)))))) rfl)) ?_
  refine l_step (y_idxAC 17 17 Hvaa.underlying318 sz_26 (et g0 rfl) rfl rfl rfl) ?_
  refine l_effN (e_store sz_26 (et g0 rfl) (cellsV (et (gS rfl (gS rfl g0)) rfl) rfl) rfl (by intro v hv; simp at hv; subst hv; rfl) kA (by exact Nat.le_of_ble_eq_true rfl)) (fun v105 w105 h105 => ?_)
  obtain ⟨rfl, x105⟩ := h105
  replace kA := x105.blk
  replace U := U.st x105 (.inl (by first | rfl | (simp; done)))
  replace kA : Blk w105 b (uL [s0 ^^^ ((18446744073709551615 - s1) &&& s2), s1 ^^^ ((18446744073709551615 - s2) &&& s3), s2 ^^^ ((18446744073709551615 - s3) &&& s4), s3 ^^^ ((18446744073709551615 - s4) &&& s0), s4 ^^^ ((18446744073709551615 - s0) &&& s1), t0 ^^^ ((18446744073709551615 - t1) &&& t2), t1 ^^^ ((18446744073709551615 - t2) &&& t3), t2 ^^^ ((18446744073709551615 - t3) &&& t4), t3 ^^^ ((18446744073709551615 - t4) &&& t0), t4 ^^^ ((18446744073709551615 - t0) &&& t1), u0 ^^^ ((18446744073709551615 - u1) &&& u2), u1 ^^^ ((18446744073709551615 - u2) &&& u3), u2 ^^^ ((18446744073709551615 - u3) &&& u4), u3 ^^^ ((18446744073709551615 - u4) &&& u0), u4 ^^^ ((18446744073709551615 - u0) &&& u1), v0 ^^^ ((18446744073709551615 - v1) &&& v2), v1 ^^^ ((18446744073709551615 - v2) &&& v3), v2 ^^^ ((18446744073709551615 - v3) &&& v4), a18, a19, a20, a21, a22, a23, a24]).toArray := kA
  refine l_nil ?_
  refine hK104 _ _ ?_
  refine fg10 0 27 28 30 31 32 33 34 35 36 (gS rfl (gS rfl (gS rfl (gS rfl (gS rfl (gS rfl (gS rfl (gS rfl (gS rfl (gS rfl (gS rfl (gS rfl (gS rfl (gS rfl (gS rfl (gS rfl (gS rfl (gS rfl (gS rfl g0))))))))))))))))))) (gS rfl (gS rfl (gS rfl (gS rfl (gS rfl (gS rfl (gS rfl (gS rfl (gS rfl (gS rfl (gS rfl (gS rfl (gS rfl (gS rfl (gS rfl (gS rfl (gS rfl (gS rfl g0)))))))))))))))))) (gS rfl (gS rfl (gS rfl (gS rfl (gS rfl (gS rfl (gS rfl (gS rfl (gS rfl (gS rfl (gS rfl (gS rfl (gS rfl (gS rfl (gS rfl (gS rfl (gS rfl g0))))))))))))))))) (gS rfl (gS rfl (gS rfl (gS rfl (gS rfl (gS rfl (gS rfl (gS rfl (gS rfl (gS rfl (gS rfl (gS rfl (gS rfl (gS rfl (gS rfl g0))))))))))))))) (gS rfl (gS rfl (gS rfl (gS rfl (gS rfl (gS rfl (gS rfl (gS rfl (gS rfl (gS rfl (gS rfl (gS rfl (gS rfl (gS rfl g0)))))))))))))) (gS rfl (gS rfl (gS rfl (gS rfl (gS rfl (gS rfl (gS rfl (gS rfl (gS rfl (gS rfl (gS rfl (gS rfl (gS rfl g0))))))))))))) (gS rfl (gS rfl (gS rfl (gS rfl (gS rfl (gS rfl (gS rfl (gS rfl (gS rfl (gS rfl (gS rfl (gS rfl g0)))))))))))) (gS rfl (gS rfl (gS rfl (gS rfl (gS rfl (gS rfl (gS rfl (gS rfl (gS rfl (gS rfl (gS rfl g0))))))))))) (gS rfl (gS rfl (gS rfl (gS rfl (gS rfl (gS rfl (gS rfl (gS rfl (gS rfl (gS rfl g0)))))))))) (gS rfl (gS rfl (gS rfl (gS rfl (gS rfl (gS rfl (gS rfl (gS rfl (gS rfl g0))))))))) (fun g => ?_)
  refine c_seq (fun K106 hK106 => ?_)
  refine c_region ?_
  refine l_step (y_moveV (et (gS rfl (gS rfl (gS rfl (gS rfl (gS rfl (gS rfl (gS rfl (gS rfl (gS rfl g0))))))))) rfl)) ?_
  refine l_step (y_moveV (et (gS rfl (gS rfl (gS rfl (gS rfl (gS rfl (gS rfl (gS rfl g0))))))) rfl)) ?_
  refine l_step (y_moveV (et (gS rfl (gS rfl (gS rfl (gS rfl (gS rfl (gS rfl (gS rfl g0))))))) rfl)) ?_
  refine l_step (y_not64 (et g0 rfl) ?_) ?_
  first | exact limb_lt _ _ | omega
  refine l_step (y_moveV (et (gS rfl (gS rfl (gS rfl (gS rfl (gS rfl (gS rfl (gS rfl (gS rfl (gS rfl (gS rfl (gS rfl (gS rfl g0)))))))))))) rfl)) ?_
  refine l_step (y_and uk64 (et (gS rfl g0) rfl) (et g0 rfl) ?_ ?_) ?_
  repeat' first | assumption | refine rotl_lt64 ?_ (by decide) | refine x64 ?_ ?_ | refine and64 ?_ | exact not64 _
  repeat' first | assumption | refine rotl_lt64 ?_ (by decide) | refine x64 ?_ ?_ | refine and64 ?_ | exact not64 _
  refine l_step (y_xor uk64 (et (gS rfl (gS rfl (gS rfl (gS rfl g0)))) rfl) (et g0 rfl) ?_ ?_) ?_
  repeat' first | assumption | refine rotl_lt64 ?_ (by decide) | refine x64 ?_ ?_ | refine and64 ?_ | exact not64 _
  repeat' first | assumption | refine rotl_lt64 ?_ (by decide) | refine x64 ?_ ?_ | refine and64 ?_ | exact not64 _
  refine l_step (y_nil (et (gS rfl (gS rfl (gS rfl (gS rfl (gS rfl (gS rfl g0)))))) rfl)) ?_
  refine l_step (y_idxAC 18 18 Hvaa.underlying318 sz_26 (et g0 rfl) rfl rfl rfl) ?_
  refine l_effN (e_store sz_26 (et g0 rfl) (cellsV (et (gS rfl (gS rfl g0)) rfl) rfl) rfl (by intro v hv; simp at hv; subst hv; rfl) kA (by exact Nat.le_of_ble_eq_true rfl)) (fun v107 w107 h107 => ?_)
  obtain ⟨rfl, x107⟩ := h107
  replace kA := x107.blk
  replace U := U.st x107 (.inl (by first | rfl | (simp; done)))
  replace kA : Blk w107 b (uL [s0 ^^^ ((18446744073709551615 - s1) &&& s2), s1 ^^^ ((18446744073709551615 - s2) &&& s3), s2 ^^^ ((18446744073709551615 - s3) &&& s4), s3 ^^^ ((18446744073709551615 - s4) &&& s0), s4 ^^^ ((18446744073709551615 - s0) &&& s1), t0 ^^^ ((18446744073709551615 - t1) &&& t2), t1 ^^^ ((18446744073709551615 - t2) &&& t3), t2 ^^^ ((18446744073709551615 - t3) &&& t4), t3 ^^^ ((18446744073709551615 - t4) &&& t0), t4 ^^^ ((18446744073709551615 - t0) &&& t1), u0 ^^^ ((18446744073709551615 - u1) &&& u2), u1 ^^^ ((18446744073709551615 - u2) &&& u3), u2 ^^^ ((18446744073709551615 - u3) &&& u4), u3 ^^^ ((18446744073709551615 - u4) &&& u0), u4 ^^^ ((18446744073709551615 - u0) &&& u1), v0 ^^^ ((18446744073709551615 - v1) &&& v2), v1 ^^^ ((18446744073709551615 - v2) &&& v3), v2 ^^^ ((18446744073709551615 - v3) &&& v4), v3 ^^^ ((18446744073709551615 - v4) &&& v0), a19, a20, a21, a22, a23, a24]).toArray := kA
  refine l_nil ?_
  refine hK106 _ _ ?_
  refine fg9 0 27 28 31 32 33 34 35 36 (gS rfl (gS rfl (gS rfl (gS rfl (gS rfl (gS rfl (gS rfl (gS rfl (gS rfl (gS rfl (gS rfl (gS rfl (gS rfl (gS rfl (gS rfl (gS rfl (gS rfl (gS rfl g0)))))))))))))))))) (gS rfl (gS rfl (gS rfl (gS rfl (gS rfl (gS rfl (gS rfl (gS rfl (gS rfl (gS rfl (gS rfl (gS rfl (gS rfl (gS rfl (gS rfl (gS rfl (gS rfl g0))))))))))))))))) (gS rfl (gS rfl (gS rfl (gS rfl (gS rfl (gS rfl (gS rfl (gS rfl (gS rfl (gS rfl (gS rfl (gS rfl (gS rfl (gS rfl (gS rfl (gS rfl g0)))))))))))))))) (gS rfl (gS rfl (gS rfl (gS rfl (gS rfl (gS rfl (gS rfl (gS rfl (gS rfl (gS rfl (gS rfl (gS rfl (gS rfl (gS rfl g0)))))))))))))) (gS rfl (gS rfl (gS rfl (gS rfl (gS rfl (gS rfl (gS rfl (gS rfl (gS rfl (gS rfl (gS rfl (gS rfl (gS rfl g0))))))))))))) (gS rfl (gS rfl (gS rfl (gS rfl (gS rfl (gS rfl (gS rfl (gS rfl (gS rfl (gS rfl (gS rfl (gS rfl g0)))))))))))) (gS rfl (gS rfl (gS rfl (gS rfl (gS rfl (gS rfl (gS rfl (gS rfl (gS rfl (gS rfl (gS rfl g0))))))))))) (gS rfl (gS rfl (gS rfl (gS rfl (gS rfl (gS rfl (gS rfl (gS rfl (gS rfl (gS rfl g0)))))))))) (gS rfl (gS rfl (gS rfl (gS rfl (gS rfl (gS rfl (gS rfl (gS rfl (gS rfl g0))))))))) (fun g => ?_)
  refine c_seq (fun K108 hK108 => ?_)
  refine c_region ?_
  refine l_step (y_moveV (et (gS rfl (gS rfl (gS rfl (gS rfl (gS rfl (gS rfl (gS rfl (gS rfl g0)))))))) rfl)) ?_
  refine l_step (y_moveV (et (gS rfl (gS rfl (gS rfl (gS rfl (gS rfl (gS rfl g0)))))) rfl)) ?_
  refine l_step (y_moveV (et (gS rfl (gS rfl (gS rfl (gS rfl (gS rfl (gS rfl (gS rfl (gS rfl (gS rfl g0))))))))) rfl)) ?_
  refine l_step (y_not64 (et g0 rfl) ?_) ?_
  first | exact limb_lt _ _ | omega
  refine l_step (y_moveV (et (gS rfl (gS rfl (gS rfl (gS rfl (gS rfl (gS rfl (gS rfl (gS rfl (gS rfl (gS rfl g0)))))))))) rfl)) ?_
  refine l_step (y_and uk64 (et (gS rfl g0) rfl) (et g0 rfl) ?_ ?_) ?_
  repeat' first | assumption | refine rotl_lt64 ?_ (by decide) | refine x64 ?_ ?_ | refine and64 ?_ | exact not64 _
  repeat' first | assumption | refine rotl_lt64 ?_ (by decide) | refine x64 ?_ ?_ | refine and64 ?_ | exact not64 _
  refine l_step (y_xor uk64 (et (gS rfl (gS rfl (gS rfl (gS rfl g0)))) rfl) (et g0 rfl) ?_ ?_) ?_
  repeat' first | assumption | refine rotl_lt64 ?_ (by decide) | refine x64 ?_ ?_ | refine and64 ?_ | exact not64 _
  repeat' first | assumption | refine rotl_lt64 ?_ (by decide) | refine x64 ?_ ?_ | refine and64 ?_ | exact not64 _
  refine l_step (y_nil (et (gS rfl (gS rfl (gS rfl (gS rfl (gS rfl (gS rfl g0)))))) rfl)) ?_
  refine l_step (y_idxAC 19 19 Hvaa.underlying318 sz_26 (et g0 rfl) rfl rfl rfl) ?_
  refine l_effN (e_store sz_26 (et g0 rfl) (cellsV (et (gS rfl (gS rfl g0)) rfl) rfl) rfl (by intro v hv; simp at hv; subst hv; rfl) kA (by exact Nat.le_of_ble_eq_true rfl)) (fun v109 w109 h109 => ?_)
  obtain ⟨rfl, x109⟩ := h109
  replace kA := x109.blk
  replace U := U.st x109 (.inl (by first | rfl | (simp; done)))
  replace kA : Blk w109 b (uL [s0 ^^^ ((18446744073709551615 - s1) &&& s2), s1 ^^^ ((18446744073709551615 - s2) &&& s3), s2 ^^^ ((18446744073709551615 - s3) &&& s4), s3 ^^^ ((18446744073709551615 - s4) &&& s0), s4 ^^^ ((18446744073709551615 - s0) &&& s1), t0 ^^^ ((18446744073709551615 - t1) &&& t2), t1 ^^^ ((18446744073709551615 - t2) &&& t3), t2 ^^^ ((18446744073709551615 - t3) &&& t4), t3 ^^^ ((18446744073709551615 - t4) &&& t0), t4 ^^^ ((18446744073709551615 - t0) &&& t1), u0 ^^^ ((18446744073709551615 - u1) &&& u2), u1 ^^^ ((18446744073709551615 - u2) &&& u3), u2 ^^^ ((18446744073709551615 - u3) &&& u4), u3 ^^^ ((18446744073709551615 - u4) &&& u0), u4 ^^^ ((18446744073709551615 - u0) &&& u1), v0 ^^^ ((18446744073709551615 - v1) &&& v2), v1 ^^^ ((18446744073709551615 - v2) &&& v3), v2 ^^^ ((18446744073709551615 - v3) &&& v4), v3 ^^^ ((18446744073709551615 - v4) &&& v0), v4 ^^^ ((18446744073709551615 - v0) &&& v1), a20, a21, a22, a23, a24]).toArray := kA
  refine l_nil ?_
  refine hK108 _ _ ?_
  refine fg6 0 32 33 34 35 36 (gS rfl (gS rfl (gS rfl (gS rfl (gS rfl (gS rfl (gS rfl (gS rfl (gS rfl (gS rfl (gS rfl (gS rfl (gS rfl (gS rfl (gS rfl (gS rfl (gS rfl g0))))))))))))))))) (gS rfl (gS rfl (gS rfl (gS rfl (gS rfl (gS rfl (gS rfl (gS rfl (gS rfl (gS rfl (gS rfl (gS rfl (gS rfl g0))))))))))))) (gS rfl (gS rfl (gS rfl (gS rfl (gS rfl (gS rfl (gS rfl (gS rfl (gS rfl (gS rfl (gS rfl (gS rfl g0)))))))))))) (gS rfl (gS rfl (gS rfl (gS rfl (gS rfl (gS rfl (gS rfl (gS rfl (gS rfl (gS rfl (gS rfl g0))))))))))) (gS rfl (gS rfl (gS rfl (gS rfl (gS rfl (gS rfl (gS rfl (gS rfl (gS rfl (gS rfl g0)))))))))) (gS rfl (gS rfl (gS rfl (gS rfl (gS rfl (gS rfl (gS rfl (gS rfl (gS rfl g0))))))))) (fun g => ?_)
  refine c_seq (fun K110 hK110 => ?_)
  refine c_region ?_
  refine l_step (y_moveV (et (gS rfl (gS rfl (gS rfl (gS rfl (gS rfl g0))))) rfl)) ?_
  refine l_step (y_moveV (et (gS rfl (gS rfl (gS rfl (gS rfl (gS rfl g0))))) rfl)) ?_
  refine l_step (y_moveV (et (gS rfl (gS rfl (gS rfl (gS rfl (gS rfl g0))))) rfl)) ?_
  refine l_step (y_not64 (et g0 rfl) ?_) ?_
  first | exact limb_lt _ _ | omega
  refine l_step (y_moveV (et (gS rfl (gS rfl (gS rfl (gS rfl (gS rfl (gS rfl g0)))))) rfl)) ?_
  refine l_step (y_and uk64 (et (gS rfl g0) rfl) (et g0 rfl) ?_ ?_) ?_
  repeat' first | assumption | refine rotl_lt64 ?_ (by decide) | refine x64 ?_ ?_ | refine and64 ?_ | exact not64 _
  repeat' first | assumption | refine rotl_lt64 ?_ (by decide) | refine x64 ?_ ?_ | refine and64 ?_ | exact not64 _
  refine l_step (y_xor uk64 (et (gS rfl (gS rfl (gS rfl (gS rfl g0)))) rfl) (et g0 rfl) ?_ ?_) ?_
  repeat' first | assumption | refine rotl_lt64 ?_ (by decide) | refine x64 ?_ ?_ | refine and64 ?_ | exact not64 _
  repeat' first | assumption | refine rotl_lt64 ?_ (by decide) | refine x64 ?_ ?_ | refine and64 ?_ | exact not64 _
  refine l_step (y_nil (et (gS rfl (gS rfl (gS rfl (gS rfl (gS rfl (gS rfl g0)))))) rfl)) ?_
  refine l_step (y_idxAC 20 20 Hvaa.underlying318 sz_26 (et g0 rfl) rfl rfl rfl) ?_
  refine l_effN (e_store sz_26 (et g0 rfl) (cellsV (et (gS rfl (gS rfl g0)) rfl) rfl) rfl (by intro v hv; simp at hv; subst hv; rfl) kA (by exact Nat.le_of_ble_eq_true rfl)) (fun v111 w111 h111 => ?_)
  obtain ⟨rfl, x111⟩ := h111
  replace kA := x111.blk
  replace U := U.st x111 (.inl (by first | rfl | (simp; done)))
  replace kA : Blk w111 b (uL [s0 ^^^ ((18446744073709551615 - s1) &&& s2), s1 ^^^ ((18446744073709551615 - s2) &&& s3), s2 ^^^ ((18446744073709551615 - s3) &&& s4), s3 ^^^ ((18446744073709551615 - s4) &&& s0), s4 ^^^ ((18446744073709551615 - s0) &&& s1), t0 ^^^ ((18446744073709551615 - t1) &&& t2), t1 ^^^ ((18446744073709551615 - t2) &&& t3), t2 ^^^ ((18446744073709551615 - t3) &&& t4), t3 ^^^ ((18446744073709551615 - t4) &&& t0), t4 ^^^ ((18446744073709551615 - t0) &&& t1), u0 ^^^ ((18446744073709551615 - u1) &&& u2), u1 ^^^ ((18446744073709551615 - u2) &&& u3), u2 ^^^ ((18446744073709551615 - u3) &&& u4), u3 ^^^ ((18446744073709551615 - u4) &&& u0), u4 ^^^ ((18446744073709551615 - u0) &&& u1), v0 ^^^ ((18446744073709551615 - v1) &&& v2), v1 ^^^ ((18446744073709551615 - v2) &&& v3), v2 ^^^ ((18446744073709551615 - v3) &&& v4), v3 ^^^ ((18446744073709551615 - v4) &&& v0), v4 ^^^ ((18446744073709551615 - v0) &&& v1), x0 ^^^ ((18446744073709551615 - x1) &&& x2), a21, a22, a23, a24]).toArray := kA
  refine l_nil ?_
  refine hK110 _ _ ?_
  refine fg6 0 32 33 34 35 36 (gS rfl (gS rfl (gS rfl (gS rfl (gS rfl (gS rfl (gS rfl (gS rfl (gS rfl (gS rfl (gS rfl (gS rfl (gS rfl (gS rfl g0)))))))))))))) (gS rfl (gS rfl (gS rfl (gS rfl (gS rfl (gS rfl (gS rfl (gS rfl (gS rfl (gS rfl (gS rfl (gS rfl (gS rfl g0))))))))))))) (gS rfl (gS rfl (gS rfl (gS rfl (gS rfl (gS rfl (gS rfl (gS rfl (gS rfl (gS rfl (gS rfl (gS rfl g0)))))))))))) (gS rfl (gS rfl (gS rfl (gS rfl (gS rfl (gS rfl (gS rfl (gS rfl (gS rfl (gS rfl (gS rfl g0))))))))))) (gS rfl (gS rfl (gS rfl (gS rfl (gS rfl (gS rfl (gS rfl (gS rfl (gS rfl (gS rfl g0)))))))))) (gS rfl (gS rfl (gS rfl (gS rfl (gS rfl (gS rfl (gS rfl (gS rfl (gS rfl g0))))))))) (fun g => ?_)
  refine c_seq (fun K112 hK112 => ?_)
  refine c_region ?_
  refine l_step (y_moveV (et (gS rfl (gS rfl (gS rfl (gS rfl (gS rfl g0))))) rfl)) ?_
  refine l_step (y_moveV (et (gS rfl (gS rfl (gS rfl (gS rfl g0)))) rfl)) ?_
  refine l_step (y_moveV (et (gS rfl (gS rfl (gS rfl (gS rfl g0)))) rfl)) ?_
  refine l_step (y_not64 (et g0 rfl) ?_) ?_
  first | exact limb_lt _ _ | omega
  refine l_step (y_moveV (et (gS rfl (gS rfl (gS rfl (gS rfl (gS rfl g0))))) rfl)) ?_
  refine l_step (y_and uk64 (et (gS rfl g0) rfl) (et g0 rfl) ?_ ?_) ?_
  repeat' first | assumption | refine rotl_lt64 ?_ (by decide) | refine x64 ?_ ?_ | refine and64 ?_ | exact not64 _
  repeat' first | assumption | refine rotl_lt64 ?_ (by decide) | refine x64 ?_ ?_ | refine and64 ?_ | exact not64 _
  refine l_step (y_xor uk64 (et (gS rfl (gS rfl (gS rfl (gS rfl g0)))) rfl) (et g0 rfl) ?_ ?_) ?_
  repeat' first | assumption | refine rotl_lt64 ?_ (by decide) | refine x64 ?_ ?_ | refine and64 ?_ | exact not64 _
  repeat' first | assumption | refine rotl_lt64 ?_ (by decide) | refine x64 ?_ ?_ | refine and64 ?_ | exact not64 _
  refine l_step (y_nil (et (gS rfl (gS rfl (gS rfl (gS rfl (gS rfl (gS rfl g0)))))) rfl)) ?_
  refine l_step (y_idxAC 21 21 Hvaa.underlying318 sz_26 (et g0 rfl) rfl rfl rfl) ?_
  refine l_effN (e_store sz_26 (et g0 rfl) (cellsV (et (gS rfl (gS rfl g0)) rfl) rfl) rfl (by intro v hv; simp at hv; subst hv; rfl) kA (by exact Nat.le_of_ble_eq_true rfl)) (fun v113 w113 h113 => ?_)
  obtain ⟨rfl, x113⟩ := h113
  replace kA := x113.blk
  replace U := U.st x113 (.inl (by first | rfl | (simp; done)))
  replace kA : Blk w113 b (uL [s0 ^^^ ((18446744073709551615 - s1) &&& s2), s1 ^^^ ((18446744073709551615 - s2) &&& s3), s2 ^^^ ((18446744073709551615 - s3) &&& s4), s3 ^^^ ((18446744073709551615 - s4) &&& s0), s4 ^^^ ((18446744073709551615 - s0) &&& s1), t0 ^^^ ((18446744073709551615 - t1) &&& t2), t1 ^^^ ((18446744073709551615 - t2) &&& t3), t2 ^^^ ((18446744073709551615 - t3) &&& t4), t3 ^^^ ((18446744073709551615 - t4) &&& t0), t4 ^^^ ((18446744073709551615 - t0) &&& t1), u0 ^^^ ((18446744073709551615 - u1) &&& u2), u1 ^^^ ((18446744073709551615 - u2) &&& u3), u2 ^^^ ((18446744073709551615 - u3) &&& u4), u3 ^^^ ((18446744073709551615 - u4) &&& u0), u4 ^^^ ((18446744073709551615 - u0) &&& u1), v0 ^^^ ((18446744073709551615 - v1) &&& v2), v1 ^^^ ((18446744073709551615 - v2) &&& v3), v2 ^^^ ((18446744073709551615 - v3) &&& v4), v3 ^^^ ((18446744073709551615 - v4) &&& v0), v4 ^^^ ((18446744073709551615 - v0) &&& v1), x0 ^^^ ((18446744073709551615 - x1) &&& x2), x1 ^^^ ((18446744073709551615 - x2) &&& x3), a22, a23, a24]).toArray := kA
  refine l_nil ?_
  refine hK112 _ _ ?_
  refine fg6 0 32 33 34 35 36 (gS rfl (gS rfl (gS rfl (gS rfl (gS rfl (gS rfl (gS rfl (gS rfl (gS rfl (gS rfl (gS rfl (gS rfl (gS rfl (gS rfl g0)))))))))))))) (gS rfl (gS rfl (gS rfl (gS rfl (gS rfl (gS rfl (gS rfl (gS rfl (gS rfl (gS rfl (gS rfl (gS rfl (gS rfl g0))))))))))))) (gS rfl (gS rfl (gS rfl (gS rfl (gS rfl (gS rfl (gS rfl (gS rfl (gS rfl (gS rfl (gS rfl (gS rfl g0)))))))))))) (gS rfl (gS rfl (gS rfl (gS rfl (gS rfl (gS rfl (gS rfl (gS rfl (gS rfl (gS rfl (gS rfl g0))))))))))) (gS rfl (gS rfl (gS rfl (gS rfl (gS rfl (gS rfl (gS rfl (gS rfl (gS rfl (gS rfl g0)))))))))) (gS rfl (gS rfl (gS rfl (gS rfl (gS rfl (gS rfl (gS rfl (gS rfl (gS rfl g0))))))))) (fun g => ?_)
  refine c_seq (fun K114 hK114 => ?_)
  refine c_region ?_
  refine l_step (y_moveV (et (gS rfl (gS rfl (gS rfl (gS rfl (gS rfl g0))))) rfl)) ?_
  refine l_step (y_moveV (et (gS rfl (gS rfl (gS rfl g0))) rfl)) ?_
  refine l_step (y_moveV (et (gS rfl (gS rfl (gS rfl g0))) rfl)) ?_
  refine l_step (y_not64 (et g0 rfl) ?_) ?_
  first | exact limb_lt _ _ | omega
  refine l_step (y_moveV (et (gS rfl (gS rfl (gS rfl (gS rfl g0)))) rfl)) ?_
  refine l_step (y_and uk64 (et (gS rfl g0) rfl) (et g0 rfl) ?_ ?_) ?_
  repeat' first | assumption | refine rotl_lt64 ?_ (by decide) | refine x64 ?_ ?_ | refine and64 ?_ | exact not64 _
  repeat' first | assumption | refine rotl_lt64 ?_ (by decide) | refine x64 ?_ ?_ | refine and64 ?_ | exact not64 _
  refine l_step (y_xor uk64 (et (gS rfl (gS rfl (gS rfl (gS rfl g0)))) rfl) (et g0 rfl) ?_ ?_) ?_
  repeat' first | assumption | refine rotl_lt64 ?_ (by decide) | refine x64 ?_ ?_ | refine and64 ?_ | exact not64 _
  repeat' first | assumption | refine rotl_lt64 ?_ (by decide) | refine x64 ?_ ?_ | refine and64 ?_ | exact not64 _
  refine l_step (y_nil (et (gS rfl (gS rfl (gS rfl (gS rfl (gS rfl (gS rfl g0)))))) rfl)) ?_
  refine l_step (y_idxAC 22 22 Hvaa.underlying318 sz_26 (et g0 rfl) rfl rfl rfl) ?_
  refine l_effN (e_store sz_26 (et g0 rfl) (cellsV (et (gS rfl (gS rfl g0)) rfl) rfl) rfl (by intro v hv; simp at hv; subst hv; rfl) kA (by exact Nat.le_of_ble_eq_true rfl)) (fun v115 w115 h115 => ?_)
  obtain ⟨rfl, x115⟩ := h115
  replace kA := x115.blk
  replace U := U.st x115 (.inl (by first | rfl | (simp; done)))
  replace kA : Blk w115 b (uL [s0 ^^^ ((18446744073709551615 - s1) &&& s2), s1 ^^^ ((18446744073709551615 - s2) &&& s3), s2 ^^^ ((18446744073709551615 - s3) &&& s4), s3 ^^^ ((18446744073709551615 - s4) &&& s0), s4 ^^^ ((18446744073709551615 - s0) &&& s1), t0 ^^^ ((18446744073709551615 - t1) &&& t2), t1 ^^^ ((18446744073709551615 - t2) &&& t3), t2 ^^^ ((18446744073709551615 - t3) &&& t4), t3 ^^^ ((18446744073709551615 - t4) &&& t0), t4 ^^^ ((18446744073709551615 - t0) &&& t1), u0 ^^^ ((18446744073709551615 - u1) &&& u2), u1 ^^^ ((18446744073709551615 - u2) &&& u3), u2 ^^^ ((18446744073709551615 - u3) &&& u4), u3 ^^^ ((18446744073709551615 - u4) &&& u0), u4 ^^^ ((18446744073709551615 - u0) &&& u1), v0 ^^^ ((18446744073709551615 - v1) &&& v2), v1 ^^^ ((18446744073709551615 - v2) &&& v3), v2 ^^^ ((18446744073709551615 - v3) &&& v4), v3 ^^^ ((18446744073709551615 - v4) &&& v0), v4 ^^^ ((18446744073709551615 - v0) &&& v1), x0 ^^^ ((18446744073709551615 - x1) &&& x2), x1 ^^^ ((18446744073709551615 - x2) &&& x3), x2 ^^^ ((18446744073709551615 - x3) &&& x4), a23, a24]).toArray := kA
  refine l_nil ?_
  refine hK114 _ _ ?_
  refine fg5 0 32 33 35 36 (gS rfl (gS rfl (gS rfl (gS rfl (gS rfl (gS rfl (gS rfl (gS rfl (gS rfl (gS rfl (gS rfl (gS rfl (gS rfl (gS rfl g0)))))))))))))) (gS rfl (gS rfl (gS rfl (gS rfl (gS rfl (gS rfl (gS rfl (gS rfl (gS rfl (gS rfl (gS rfl (gS rfl (gS rfl g0))))))))))))) (gS rfl (gS rfl (gS rfl (gS rfl (gS rfl (gS rfl (gS rfl (gS rfl (gS rfl (gS rfl (gS rfl (gS rfl g0)))))))))))) (gS rfl (gS rfl (gS rfl (gS rfl (gS rfl (gS rfl (gS rfl (gS rfl (gS rfl (gS rfl g0)))))))))) (gS rfl (gS rfl (gS rfl (gS rfl (gS rfl (gS rfl (gS rfl (gS rfl (gS rfl g0))))))))) (fun g => ?_)
  refine c_seq (fun K116 hK116 => ?_)
  refine c_region ?_
  refine l_step (y_moveV (et (gS rfl (gS rfl (gS rfl (gS rfl g0)))) rfl)) ?_
  refine l_step (y_moveV (et (gS rfl (gS rfl g0)) rfl)) ?_
  refine l_step (y_moveV (et (gS rfl (gS rfl g0)) rfl)) ?_
  refine l_step (y_not64 (et g0 rfl) ?_) ?_
  first | exact limb_lt _ _ | omega
  refine l_step (y_moveV (et (gS rfl (gS rfl (gS rfl (gS rfl (gS rfl (gS rfl (gS rfl g0))))))) rfl)) ?_
  refine l_step (y_and uk64 (et (gS rfl g0) rfl) (et g0 rfl) ?_ ?_) ?_
  repeat' first | assumption | refine rotl_lt64 ?_ (by decide) | refine x64 ?_ ?_ | refine and64 ?_ | exact not64 _
  repeat' first | assumption | refine rotl_lt64 ?_ (by decide) | refine x64 ?_ ?_ | refine and64 ?_ | exact not64 _
  refine l_step (y_xor uk64 (et (gS rfl (gS rfl (gS rfl (gS rfl g0)))) rfl) (et g0 rfl) ?_ ?_) ?_
  repeat' first | assumption | refine rotl_lt64 ?_ (by decide) | refine x64 ?_ ?_ | refine and64 ?_ | exact not64 _
  repeat' first | assumption | refine rotl_lt64 ?_ (by decide) | refine x64 ?_ ?_ | refine and64 ?_ | exact not64 _
  refine l_step (y_nil (et (gS rfl (gS rfl (gS rfl (gS rfl (gS rfl (gS rfl g0)))))) rfl)) ?_
  refine l_step (y_idxAC 23 23 Hvaa.underlying318 sz_26 (et g0 rfl) rfl rfl rfl) ?_
  refine l_effN (e_store sz_26 (et g0 rfl) (cellsV (et (gS rfl (gS rfl g0)) rfl) rfl) rfl (by intro v hv; simp at hv; subst hv; rfl) kA (by exact Nat.le_of_ble_eq_true rfl)) (fun v117 w117 h117 => ?_)
  obtain ⟨rfl, x117⟩ := h117
  replace kA := x117.blk
  replace U := U.st x117 (.inl (by first | rfl | (simp; done)))
  replace kA : Blk w117 b (uL [s0 ^^^ ((18446744073709551615 - s1) &&& s2), s1 ^^^ ((18446744073709551615 - s2) &&& s3), s2 ^^^ ((18446744073709551615 - s3) &&& s4), s3 ^^^ ((18446744073709551615 - s4) &&& s0), s4 ^^^ ((18446744073709551615 - s0) &&& s1), t0 ^^^ ((18446744073709551615 - t1) &&& t2), t1 ^^^ ((18446744073709551615 - t2) &&& t3), t2 ^^^ ((18446744073709551615 - t3) &&& t4), t3 ^^^ ((18446744073709551615 - t4) &&& t0), t4 ^^^ ((18446744073709551615 - t0) &&& t1), u0 ^^^ ((18446744073709551615 - u1) &&& u2), u1 ^^^ ((18446744073709551615 - u2) &&& u3), u2 ^^^ ((18446744073709551615 - u3) &&& u4), u3 ^^^ ((18446744073709551615 - u4) &&& u0), u4 ^^^ ((18446744073709551615 - u0) &&& u1), v0 ^^^ ((18446744073709551615 - v1) &&& v2), v1 ^^^ ((18446744073709551615 - v2) &&& v3), v2 ^^^ ((18446744073709551615 - v3) &&& v4), v3 ^^^ ((18446744073709551615 - v4) &&& v0), v4 ^^^ ((18446744073709551615 - v0) &&& v1), x0 ^^^ ((18446744073709551615 - x1) &&& x2), x1 ^^^ ((18446744073709551615 - x2) &&& x3), x2 ^^^ ((18446744073709551615 - x3) &&& x4), x3 ^^^ ((18446744073709551615 - x4) &&& x0), a24]).toArray := kA
  refine l_nil ?_
  refine hK116 _ _ ?_
  refine fg4 0 32 33 36 (gS rfl (gS rfl (gS rfl (gS rfl (gS rfl (gS rfl (gS rfl (gS rfl (gS rfl (gS rfl (gS rfl (gS rfl (gS rfl g0))))))))))))) (gS rfl (gS rfl (gS rfl (gS rfl (gS rfl (gS rfl (gS rfl (gS rfl (gS rfl (gS rfl (gS rfl (gS rfl g0)))))))))))) (gS rfl (gS rfl (gS rfl (gS rfl (gS rfl (gS rfl (gS rfl (gS rfl (gS rfl (gS rfl (gS rfl g0))))))))))) (gS rfl (gS rfl (gS rfl (gS rfl (gS rfl (gS rfl (gS rfl (gS rfl (gS rfl g0))))))))) (fun g => ?_)
  refine c_region ?_
  refine l_step (y_moveV (et (gS rfl (gS rfl (gS rfl g0))) rfl)) ?_
  refine l_step (y_moveV (et (gS rfl g0) rfl)) ?_
  refine l_step (y_moveV (et (gS rfl (gS rfl (gS rfl (gS rfl g0)))) rfl)) ?_
  refine l_step (y_not64 (et g0 rfl) ?_) ?_
  first | exact limb_lt _ _ | omega
  refine l_step (y_moveV (et (gS rfl (gS rfl (gS rfl (gS rfl (gS rfl g0))))) rfl)) ?_
  refine l_step (y_and uk64 (et (gS rfl g0) rfl) (et g0 rfl) ?_ ?_) ?_
  repeat' first | assumption | refine rotl_lt64 ?_ (by decide) | refine x64 ?_ ?_ | refine and64 ?_ | exact not64 _
  repeat' first | assumption | refine rotl_lt64 ?_ (by decide) | refine x64 ?_ ?_ | refine and64 ?_ | exact not64 _
  refine l_step (y_xor uk64 (et (gS rfl (gS rfl (gS rfl (gS rfl g0)))) rfl) (et g0 rfl) ?_ ?_) ?_
  repeat' first | assumption | refine rotl_lt64 ?_ (by decide) | refine x64 ?_ ?_ | refine and64 ?_ | exact not64 _
  repeat' first | assumption | refine rotl_lt64 ?_ (by decide) | refine x64 ?_ ?_ | refine and64 ?_ | exact not64 _
  refine l_step (y_nil (et (gS rfl (gS rfl (gS rfl (gS rfl (gS rfl (gS rfl g0)))))) rfl)) ?_
  refine l_step (y_idxAC 24 24 Hvaa.underlying318 sz_26 (et g0 rfl) rfl rfl rfl) ?_
  refine l_effN (e_store sz_26 (et g0 rfl) (cellsV (et (gS rfl (gS rfl g0)) rfl) rfl) rfl (by intro v hv; simp at hv; subst hv; rfl) kA (by exact Nat.le_of_ble_eq_true rfl)) (fun v118 w118 h118 => ?_)
  obtain ⟨rfl, x118⟩ := h118
  replace kA := x118.blk
  replace U := U.st x118 (.inl (by first | rfl | (simp; done)))
  replace kA : Blk w118 b (uL [s0 ^^^ ((18446744073709551615 - s1) &&& s2), s1 ^^^ ((18446744073709551615 - s2) &&& s3), s2 ^^^ ((18446744073709551615 - s3) &&& s4), s3 ^^^ ((18446744073709551615 - s4) &&& s0), s4 ^^^ ((18446744073709551615 - s0) &&& s1), t0 ^^^ ((18446744073709551615 - t1) &&& t2), t1 ^^^ ((18446744073709551615 - t2) &&& t3), t2 ^^^ ((18446744073709551615 - t3) &&& t4), t3 ^^^ ((18446744073709551615 - t4) &&& t0), t4 ^^^ ((18446744073709551615 - t0) &&& t1), u0 ^^^ ((18446744073709551615 - u1) &&& u2), u1 ^^^ ((18446744073709551615 - u2) &&& u3), u2 ^^^ ((18446744073709551615 - u3) &&& u4), u3 ^^^ ((18446744073709551615 - u4) &&& u0), u4 ^^^ ((18446744073709551615 - u0) &&& u1), v0 ^^^ ((18446744073709551615 - v1) &&& v2), v1 ^^^ ((18446744073709551615 - v2) &&& v3), v2 ^^^ ((18446744073709551615 - v3) &&& v4), v3 ^^^ ((18446744073709551615 - v4) &&& v0), v4 ^^^ ((18446744073709551615 - v0) &&& v1), x0 ^^^ ((18446744073709551615 - x1) &&& x2), x1 ^^^ ((18446744073709551615 - x2) &&& x3), x2 ^^^ ((18446744073709551615 - x3) &&& x4), x3 ^^^ ((18446744073709551615 - x4) &&& x0), x4 ^^^ ((18446744073709551615 - x0) &&& x1)]).toArray := kA
  refine l_nil ?_
  refine end0 rfl ?_
  exact ⟨rfl, (by unfold rndL; simp only [← ec0.out, ← ec1.out, ← ec2.out, ← ec3.out, ← ec4.out, ← ed0.out, ← ed1.out, ← ed2.out, ← ed3.out, ← ed4.out, ← es0.out, ← es1.out, ← es2.out, ← es3.out, ← es4.out, ← et0.out, ← et1.out, ← et2.out, ← et3.out, ← et4.out, ← eu0.out, ← eu1.out, ← eu2.out, ← eu3.out, ← eu4.out, ← ev0.out, ← ev1.out, ← ev2.out, ← ev3.out, ← ev4.out, ← ex0.out, ← ex1.out, ← ex2.out, ← ex3.out, ← ex4.out]; exact kA), U⟩
end Go.Proofs.YgvaawGreat
