import Derived.Test.YgvaawGreatY48
import Derived.Test.YgvaawGreatY49
import Derived.Test.YgvaawGreatY44
set_option maxRecDepth 100000
set_option maxHeartbeats 4000000
set_option linter.unusedSimpArgs false
set_option linter.unusedVariables false
namespace Go.Proofs.YgvaawGreat
open Go
theorem YM.up {w w' : World} {H : Store} {bs bf : Nat} {s : YSt} {Y : Nat → Prop} (h : YM w H bs s Y bf) (u : Up w w') : YM w' H bs s Y bf := by
  obtain ⟨cs, vf, vl, fs, ms, ol, h1, h2, h3, h4, h5, h6, h7, h8⟩ := h.ex
  exact ⟨h.fz.up u, cs, vf, vl, fs, ms, ol, h1.up u, h2, h3.ch u (fun _ h => h), h4, h5.up u, h6.up u, h7, ⟨h8.s, h8.f, fun m hm => ⟨Nat.lt_of_lt_of_le (h8.m m hm).1 u.size, (h8.m m hm).2⟩, h8.nd, fun b e => ⟨(h8.l b e).1, (h8.l b e).2.1, (h8.l b e).2.2.1, Nat.lt_of_lt_of_le (h8.l b e).2.2.2 u.size⟩⟩⟩
/-- the specification's machine amid a run that began at w0 -/
structure YR (w0 : World) (H0 : Store) (w : World) (bs : Nat) (s : YSt) : Prop where
  ex : ∃ H bf, Go (fun b => b = bs) w0 H0 w H ∧ YM w H bs s (fun b => b = bs ∨ w0.heap.size ≤ b) bf
theorem YM.cells {w : World} {H : Store} {bs bf : Nat} {s : YSt} {Y : Nat → Prop} (h : YM w H bs s Y bf) : ∃ cs vf, Blk w bs cs ∧ SC H cs s vf ∧ ∃ a n c, vf = .slice a n c := by
  obtain ⟨cs, vf, vl, fs, ms, ol, h1, h2, h3, _⟩ := h.ex
  obtain ⟨a, c, e⟩ := h3.sl
  exact ⟨cs, vf, h1, h2, a, _, c, e⟩
theorem y_stepA {w0 w : World} {H0 : Store} {bs : Nat} {s z : YSt} {n : Nat} (hQ : YR w0 H0 w bs s) (hR : Rn n s z) : Ret 20 [.pointer (some ⟨bs, 0, none⟩)] w (fun v w' => ∃ b s2, v = .bool b ∧ YR w0 H0 w' bs s2 ∧ Ch (fun b => b = bs ∨ w0.heap.size ≤ b) w w' ∧ (b = true → ∃ m, n = m + 1 ∧ Rn m s2 z) ∧ (b = false → s2 = z)) := by
  obtain ⟨H, bf, g, hy⟩ := hQ.ex
  cases n with
  | zero =>
    obtain ⟨rfl, h, _⟩ := hR
    obtain ⟨cs, vf, kS, hs, hvf⟩ := hy.cells
    refine (yp_stepE (hy.fz) bs cs s vf kS hs hvf (by rw [h.ph]; decide)).mono (fun v w' h9 => ?_)
    refine ⟨false, s, h9.1, ⟨H, bf, g.tr (Go.ofUp hy.fz h9.2), hy.up h9.2⟩, h9.2.ch, (fun e => by cases e), fun _ => rfl⟩
  | succ n =>
    obtain ⟨_, _, h1, h2, h3, h4⟩ := hR
    refine (yp_step kec_spec (crt_spec kec_spec) hy.fz hy h2 h1.ph (stH_of h1 h3)).mono (fun v w' h9 => ?_)
    obtain ⟨e, H', bf', g', hy'⟩ := h9
    refine ⟨true, _, e, ⟨H', bf', g.trans g' (fun b hb => hb), hy'.wk (fun b hb => hb.elim id (fun h8 => .inr (Nat.le_trans g.ch.size h8)))⟩, g'.ch, fun _ => ⟨_, rfl, h4⟩, (fun e => by cases e)⟩
end Go.Proofs.YgvaawGreat
