import Derived.Test.YgvaawGreatGb
set_option maxRecDepth 100000
set_option linter.unusedSimpArgs false
set_option linter.unusedVariables false
namespace Go.Proofs.YgvaawGreat
open Go
section
variable {n : Nat} {s : Nat → Value} {w : World} {d : Option Nat} {ty : TypeId} {pos : String} {af : Array Edge} {g : Option (Nat × Bool)}
set_option maxRecDepth 8000 in
/-- make with room to spare -/
theorem e_makeC {x y : Operand} {T e m c k q : Nat} {z : Value} (hU : Hvaa.prog.underlying T = some (.slice e)) (hs : Sz e k) (hz : Zr e z) (hq : By e q) {kl kc : IntKind} (hx : ev n s x = .int kl (m : Nat)) (hy : ev n s y = .int kc (c : Nat))
    (hmc : m ≤ c) (hb : q * c ≤ 281474976710656) (hm : c < 9223372036854775808) :
    Eff n s w ⟨d, .makeSlice T x y, ty, pos, af, g⟩ (fun v w' => ∃ b, v = .slice (some ⟨b, 0, none⟩) m c ∧ New w w' b (madeCells z.cells (c * k))) := by
  refine ⟨fun K Q hK => ?_⟩
  refine (info_of hs hz hq).elim fun i hh => ?_
  have hi := hh.1
  have h2 := hh.2.1
  have h3 := hh.2.2.1
  have h4 := hh.2.2.2
  rw [← h3] at hb
  rw [← h2] at hK
  have hb' : (i.bytes : Int) * (c : Int) ≤ 281474976710656 := by
    have h : ((i.bytes * c : Nat) : Int) ≤ 281474976710656 := by omega
    rwa [Int.natCast_mul] at h
  have hr := run_make (P := Hvaa.prog) w T e i z hU hi h4 kl kc m c (by omega) (by omega) hb' (by omega)
  have : (execOp (mk n s).eval ⟨d, .makeSlice T x y, ty, pos, af, g⟩).run Hvaa.prog w = .ok (.value (.slice (some ⟨w.heap.size, 0, none⟩) m c)) (w.alloc (.cells (madeCells z.cells (c * i.size)) e)) := by
    rw [mk_eval']
    simp only [Int.toNat_natCast] at hr
    simp [execOp, hx, hy, hr]
  unfold Oper.wp
  rw [this]
  exact hK _ _ ⟨_, rfl, new_alloc w _ e⟩
/-- append of m records where there is room -/
theorem e_appIn {x y : Operand} {T e k q by_ oy bg N m c cap : Nat} {z : Value} {cur : Array Value} {news : List Value} (hU : Hvaa.prog.underlying T = some (.slice e)) (hs : Sz e k) (hz : Zr e z) (hq : By e q)
    (hx : ev n s x = .slice (some ⟨bg, 0, none⟩) N cap) (hO : Blk w bg cur) (hcs : cap * k ≤ cur.size) (hroom : N + m ≤ cap) (hy : ev n s y = .slice (some ⟨by_, oy, none⟩) m c) (hm : 0 < m) (hl : news.length = m * k) (hr : Row w by_ oy news) (h1 : ∀ u ∈ news, u.one1 = true) :
    Eff n s w ⟨d, .call { callee := .builtin .append, args := #[x, y], argTypes := #[T, T] }, ty, pos, af, g⟩ (fun v' w' => v' = .slice (some ⟨bg, 0, none⟩) (N + m) cap ∧ Blk w' bg (spl cur (N * k) news) ∧ Ch (fun b => b = bg) w w') := by
  obtain ⟨i, hi, g2, g3, g4⟩ := info_of hs hz hq
  have hnews : ∀ (j : Nat) u, news[j]? = some u → w.cell? ((⟨by_, oy, none⟩ : Addr).add j) = some u := fun j u hu => by
    rw [addr_add]; exact hr j u hu
  subst g2
  obtain ⟨T0, hg⟩ := hO
  refine ⟨fun K Q hK => ?_⟩
  have hfit : N * i.size + news.length ≤ cur.size := by rw [hl, ← Nat.add_mul]; exact Nat.le_trans (Nat.mul_le_mul_right _ hroom) hcs
  have hf := run_firstCells_some (P := Hvaa.prog) w i.size m ⟨by_, oy, none⟩ m c news hl hnews
  obtain ⟨w', e1, e2, e3, e4⟩ := run_storeCells_blk bg T0 news w cur (N * i.size) 0 hg (by omega) h1
  have : (execOp (mk n s).eval ⟨d, .call { callee := .builtin .append, args := #[x, y], argTypes := #[T, T] }, ty, pos, af, g⟩).run Hvaa.prog w = .ok (.value (.slice (some ⟨bg, 0, none⟩) (N + m) cap)) w' := by
    rw [mk_eval']
    simp [execOp, resolve, invoke, builtin, hx, hy, Builtin.append_, run_underlying hU, sizeOf, typeInfo, hi, Builtin.lenOf, hroom, hf, addr_add, e1]
  unfold Oper.wp
  rw [this]
  exact hK _ _ ⟨rfl, ⟨T0, by simpa using e2⟩, ⟨e3.1, e3.2, e3.3, e3.4, fun b hb hM => e3.5 b hb (fun h => hM h)⟩⟩
end
end Go.Proofs.YgvaawGreat
