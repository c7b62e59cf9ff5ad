import Derived.Test.YgvaawGreatY1
set_option maxRecDepth 100000
set_option maxHeartbeats 4000000
set_option linter.unusedSimpArgs false
set_option linter.unusedVariables false
namespace Go.Proofs.YgvaawGreat
open Go
theorem val_take_mod {l : List Nat} (hd : Dig 256 l) (k : Nat) : val 256 (l.take k) = val 256 l % 256 ^ k := by
  rcases Nat.lt_or_ge k l.length with h | h
  · rw [val_take_drop 256 l k (by omega), Nat.add_mul_mod_self_left, Nat.mod_eq_of_lt]
    have := val_lt (hd.take k)
    rwa [List.length_take, Nat.min_eq_left (by omega)] at this
  · rw [take_ge h, Nat.mod_eq_of_lt]
    exact Nat.lt_of_lt_of_le (val_lt hd) (Nat.pow_le_pow_right (by decide) h)
theorem WV.take' {s0 c k : Nat} {w : World} {a : Option Addr} {l : List Nat} (h : WV s0 w (.slice a l.length c) l) (hk : k ≤ l.length) : WV s0 w (.slice a k c) (l.take k) := by
  refine ⟨h.dig.take k, ?_⟩
  rcases h.at' with ⟨h1, h2⟩ | ⟨b, o, c', h1, h2, h3, h4, h5⟩
  · subst h2
    have : k = 0 := by simpa using hk
    subst this
    obtain ⟨q, h1⟩ := h1
    cases h1
    exact .inl ⟨⟨_, rfl⟩, rfl⟩
  · cases h1
    refine .inr ⟨b, o, c, by simp [Nat.min_eq_left hk], h2, by simp; omega, by omega, ?_⟩
    intro i v hv
    refine h5 i v ?_
    rw [← bL_take, List.getElem?_take] at hv
    split at hv
    · exact hv
    · cases hv
theorem bd_wrap {x : Nat} : x % W256 < 256 ^ 32 := by rw [← W256_pow]; exact Nat.mod_lt _ (by decide)
theorem bd_wrap' {H : Store} {v : Value} {x : Nat} (n : NV H v (x % W256)) : x % W256 < 256 ^ 32 := bd_wrap
theorem neg_bit {x : Nat} (h : x < 256 ^ 32) : decide (x / 2 ^ 255 % 2 = 1) = neg x := by
  unfold neg
  have h1 : x < W256 := W_bd h
  unfold W256 at h1
  have e : (2 : Nat) ^ 255 = 57896044618658097711785492504343953926634992332820282019728792003956564819968 := by decide
  rw [e]
  congr 1
  apply propext
  constructor <;> intro h2 <;> omega
theorem W256_2 : 2 ^ 256 = W256 := by decide
/-- one digit as a natural -/
theorem New.nv {w w' : World} {H : Store} {b d : Nat} (n : New w w' b (Value.int .u8 (d : Nat)).cells) (hF : Fz w H) (hd : d < 256) : ∃ H', Go No w H w' H' ∧ BV H' (.slice (some ⟨b, 0, none⟩) 1 1) [d] := by
  have f : FB w w' (.slice (some ⟨b, 0, none⟩) 1 1) [d] := ⟨Dig.one hd, .inr ⟨b, 1, [], rfl, Nat.le_refl _, by decide, n.fresh, n.blk⟩⟩
  obtain ⟨H2, g2, _, b2⟩ := f.kp (Go.ofUp hF n.up)
  exact ⟨H2, g2, b2⟩
theorem BV.one {H : Store} {v : Value} {d : Nat} (h : BV H v [d]) (h0 : d ≠ 0) : NV H v d := ⟨[d], h, by simp [val], fun q hq => by simp at hq; omega⟩
section
variable {n : Nat} {s : Nat → Value} {w : World} {d : Option Nat} {ty : TypeId} {pos : String} {af : Array Edge} {g : Option (Nat × Bool)}
theorem e_one {x : Operand} {H : Store} {q : Nat} (hF : Fz w H) (hx : ev n s x = .int .u8 (q : Nat)) (hq : q < 256) : Eff n s w ⟨d, .buildSlice 95 1 #[(0, x)], ty, pos, af, g⟩ (fun u w' => ∃ H', Go No w H w' H' ∧ BV H' u [q]) := by
  have h := e_slice1 (w := w) (d := d) (ty := ty) (pos := pos) (af := af) (g := g) (k := 0) Hvaa.underlying95 sz_5 zr_5 rfl (by decide) hx rfl
  refine ⟨fun K Q hK => h.out K Q fun v w' hv => hK v w' ?_⟩
  obtain ⟨b, rfl, nb⟩ := hv
  exact nb.nv hF hq
end
theorem yp_wrapped {w : World} {H : Store} {v1 : Value} {x : Nat} (hF : Fz w H) (h1 : NV H v1 x) (s1 : Sm x) :
    Ret 337 [v1] w (fun v w' => ∃ H', Go No w H w' H' ∧ NV H' v (x % W256)) := by
  obtain ⟨l, a, c, rfl, hbv, rfl, ht, hl200, hlc, hc63⟩ := h1.len s1
  refine enter (n := 9) Hvaa.func337 rfl rfl (Nat.le_of_ble_eq_true rfl) ?_
  have U := Up.refl w
  have G : Go (No) w H w H := Go.refl hF
  refine c_seq (fun K1 hK1 => ?_)
  refine c_region ?_
  refine l_step y_assignC ?_
  refine l_nil ?_
  refine hK1 _ _ ?_
  refine fg1 0 (gS rfl g0) (fun g => ?_)
  refine c_seq (fun K2 hK2 => ?_)
  refine c_region ?_
  refine l_step (y_moveV (et g0 rfl)) ?_
  refine l_step (y_moveV (et (gS rfl g0) rfl)) ?_
  refine l_step (y_len Hvaa.underlying95 (et g0 rfl)) ?_
  refine l_step (y_minN (b := 32) (et g0 rfl) rfl) ?_
  refine l_step (y_slS010n Hvaa.underlying95 sz_5 (et (gS rfl (gS rfl (gS rfl g0))) rfl) (et g0 rfl) ?_) ?_
  omega
  have hW3 := (hbv.wv hF).take' (show min l.length 32 ≤ l.length by omega)
  refine l_eff (e_callV cal_123 (aC (et g0 rfl) aN) (nat_norm hF hW3 (Nat.le_refl _) (by simp; omega))) (fun v3 w3 h3 => ?_)
  obtain ⟨H3, g3, n3⟩ := h3
  have hlew3 := g3.le
  replace hbv := hbv.mono hlew3
  replace U := U.tr g3.up
  replace G := G.tr g3
  replace hF := g3.fz
  refine l_step (y_assignV (et g0 rfl)) ?_
  refine l_nil ?_
  refine hK2 _ _ ?_
  refine fg1 2 g0 (fun g => ?_)
  refine c_ret ?_
  refine ret1 rfl (res_tmp (et g0 rfl)) ?_
  refine ⟨_, G, ?_⟩
  have e : l.take (min l.length 32) = l.take 32 := by
    rcases Nat.le_total l.length 32 with h | h
    · rw [Nat.min_eq_left h, take_ge (Nat.le_refl _), take_ge h]
    · rw [Nat.min_eq_right h]
  have n9 := n3
  rw [e, val_take_mod hbv.dig, ← W256_pow] at n9
  exact n9
end Go.Proofs.YgvaawGreat
