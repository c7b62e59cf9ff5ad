import Derived.Test.YgvaawGreatY31
set_option maxRecDepth 100000
set_option linter.unusedSimpArgs false
set_option linter.unusedVariables false
namespace Go.Proofs.YgvaawGreat
open Go
/-! A slice of records in a block of its own that may grow in place. -/
structure GB (w : World) (k : Nat) (v : Value) (bg : Nat) (cur : Array Value) (n : Nat) : Prop where
  at' : (v = .slice none 0 0 ∧ n = 0) ∨ ∃ cap, v = .slice (some ⟨bg, 0, none⟩) n cap ∧ n ≤ cap ∧ cap ≤ maxLen ∧ cap * k ≤ cur.size ∧ Blk w bg cur
theorem GB.nil (w : World) (k bg : Nat) (cur : Array Value) : GB w k (.slice none 0 0) bg cur 0 := ⟨.inl ⟨rfl, rfl⟩⟩
theorem GB.ch {M : Nat → Prop} {w w' : World} {k : Nat} {v : Value} {bg : Nat} {cur : Array Value} {n : Nat} (h : GB w k v bg cur n) (c : Ch M w w') (hM : v.ownBlock = some bg → ¬ M bg) : GB w' k v bg cur n := by
  rcases h.at' with h | ⟨cap, h1, h2, h3, h4, h5⟩
  · exact ⟨.inl h⟩
  · exact ⟨.inr ⟨cap, h1, h2, h3, h4, h5.ch c (hM (by rw [h1]; rfl))⟩⟩
theorem GB.up {w w' : World} {k : Nat} {v : Value} {bg : Nat} {cur : Array Value} {n : Nat} (h : GB w k v bg cur n) (c : Up w w') : GB w' k v bg cur n := h.ch c (fun _ h => h)
theorem GB.wr {w w' : World} {k : Nat} {v : Value} {bg b : Nat} {cur cs : Array Value} {n : Nat} (h : GB w k v bg cur n) (c : Wr w w' b cs) (hb : v.ownBlock = some bg → bg ≠ b) : GB w' k v bg cur n := h.ch c.ch hb
theorem GB.sl {w : World} {k : Nat} {v : Value} {bg : Nat} {cur : Array Value} {n : Nat} (h : GB w k v bg cur n) : ∃ a c, v = .slice a n c := by
  rcases h.at' with ⟨h1, h2⟩ | ⟨cap, h1, _⟩
  · exact ⟨none, 0, by rw [h1, h2]⟩
  · exact ⟨_, _, h1⟩
theorem GB.pos {w : World} {k : Nat} {v : Value} {bg : Nat} {cur : Array Value} {n : Nat} (h : GB w k v bg cur n) (hn : 0 < n) : ∃ cap, v = .slice (some ⟨bg, 0, none⟩) n cap ∧ n ≤ cap ∧ cap ≤ maxLen ∧ cap * k ≤ cur.size ∧ Blk w bg cur := by
  rcases h.at' with ⟨_, h2⟩ | h
  · omega
  · exact h
theorem GB.own {w : World} {k : Nat} {v : Value} {bg : Nat} {cur : Array Value} {n b : Nat} (h : GB w k v bg cur n) (hb : v.ownBlock = some b) : b = bg ∧ b < w.heap.size := by
  rcases h.at' with ⟨h1, h2⟩ | ⟨cap, h1, h2, h3, h4, h5⟩
  · rw [h1] at hb; cases hb
  · rw [h1] at hb; cases hb; exact ⟨rfl, h5.lt⟩
/-- the block was written -/
theorem GB.set {w w' : World} {k : Nat} {v : Value} {bg : Nat} {cur cur' : Array Value} {n : Nat} (h : GB w k v bg cur n) (hz : cur'.size = cur.size) (hb : 0 < n → Blk w' bg cur') : 0 < n → GB w' k v bg cur' n := by
  intro hn
  obtain ⟨cap, h1, h2, h3, h4, h5⟩ := h.pos hn
  exact ⟨.inr ⟨cap, h1, h2, h3, by rw [hz]; exact h4, hb hn⟩⟩
/-- a shorter slice of the same block -/
theorem GB.cut {w : World} {k : Nat} {bg m : Nat} {cur : Array Value} {n : Nat} {v : Value} {cap : Nat} (h : GB w k v bg cur n) (e : v = .slice (some ⟨bg, 0, none⟩) n cap) (hm : m ≤ n) : GB w k (.slice (some ⟨bg, 0, none⟩) m cap) bg cur m := by
  rcases h.at' with ⟨h1, h2⟩ | ⟨cap', h1, h2, h3, h4, h5⟩
  · rw [h1] at e; cases e
  · rw [h1] at e; cases e; exact ⟨.inr ⟨_, rfl, by omega, h3, h4, h5⟩⟩
/-- the first q cells are the same -/
def Pre (cs cs' : Array Value) (q : Nat) : Prop := ∀ i, i < q → cs'[i]? = cs[i]?
theorem Pre.row {cs cs' : Array Value} {q o : Nat} {l : List Value} (h : Pre cs cs' q) (hr : RowIn cs o l) (ho : o + l.length ≤ q) : RowIn cs' o l := fun i v hv => by
  have hi : i < l.length := (List.getElem?_eq_some_iff.1 hv).1
  rw [h _ (by omega)]; exact hr i v hv
theorem Pre.trans {a b c : Array Value} {q : Nat} (h : Pre a b q) (g : Pre b c q) : Pre a c q := fun i hi => (g i hi).trans (h i hi)
section
variable {n : Nat} {s : Nat → Value} {w : World} {d : Option Nat} {ty : TypeId} {pos : String} {af : Array Edge} {g : Option (Nat × Bool)}
/-- append of m records to a slice that may grow in place -/
theorem e_appGB {x y : Operand} {T e k q by_ oy bg N m c : Nat} {z v : Value} {cur : Array Value} {news : List Value} (hU : Hvaa.prog.underlying T = some (.slice e)) (hs : Sz e k) (hz : Zr e z) (hq : By e q) (hzs : z.cells.size = k) (hk : 0 < k)
    (hx : ev n s x = v) (hO : GB w k v bg cur N) (hy : ev n s y = .slice (some ⟨by_, oy, none⟩) m c) (hm : 0 < m) (hl : news.length = m * k) (hr : Row w by_ oy news) (h1 : ∀ u ∈ news, u.one1 = true) (hq2 : q ≤ 4096) (hn : N + m ≤ 4294967296) :
    Eff n s w ⟨d, .call { callee := .builtin .append, args := #[x, y], argTypes := #[T, T] }, ty, pos, af, g⟩ (fun v' w' => ∃ bg' cur', GB w' k v' bg' cur' (N + m) ∧ Pre cur cur' (N * k) ∧ RowIn cur' (N * k) news ∧ Ch (fun b => v.ownBlock = some b) w w' ∧ (v.ownBlock = some bg' ∨ (w.heap.size ≤ bg' ∧ Up w w'))) := by
  have hb2 : (N + m) * q ≤ 140737488355328 := by
    have := Nat.mul_le_mul hn hq2
    omega
  obtain ⟨i, hi, g2, g3, g4⟩ := info_of hs hz hq
  have hnews : ∀ (j : Nat) u, news[j]? = some u → w.cell? ((⟨by_, oy, none⟩ : Addr).add j) = some u := fun j u hu => by
    rw [addr_add]; exact hr j u hu
  have hml : N + m ≤ maxLen := by unfold maxLen; omega
  subst g2
  have grown : ∀ (olds : List Value) (old : Nat), olds.length = N * i.size → Pre cur olds.toArray (N * i.size) → ∀ (v' : Value) (w' : World),
      v' = .slice (some ⟨w.heap.size, 0, none⟩) (N + m) (grownCap w (N + m) old e) → w' = (w.drew.alloc (.cells (olds.toArray ++ news.toArray ++ Builtin.zeroCells z.cells (grownCap w (N + m) old e - (N + m))) e)) →
      ∃ bg' cur', GB w' i.size v' bg' cur' (N + m) ∧ Pre cur cur' (N * i.size) ∧ RowIn cur' (N * i.size) news ∧ Ch (fun b => v.ownBlock = some b) w w' ∧ (v.ownBlock = some bg' ∨ (w.heap.size ≤ bg' ∧ Up w w')) := by
    intro olds old ho hp v' w' ev ew
    subst ev ew
    have hge := grownCap_ge w (N + m) old e
    have hcm : grownCap w (N + m) old e ≤ maxLen := grownCap_le_maxLen w (N + m) old e hml
    refine ⟨w.heap.size, (olds.toArray ++ news.toArray ++ Builtin.zeroCells z.cells (grownCap w (N + m) old e - (N + m))), ⟨.inr ⟨_, rfl, hge, hcm, ?_, ⟨e, heap_alloc_new w.drew _⟩⟩⟩, ?_, ?_, ⟨rfl, rfl, rfl, by simp, fun b hb _ => heap_alloc_old w.drew _ hb⟩, .inr ⟨Nat.le_refl _, ⟨rfl, rfl, rfl, by simp, fun b hb _ => heap_alloc_old w.drew _ hb⟩⟩⟩
    · simp only [Array.size_append, List.size_toArray, size_zeroCells, hzs, ho, hl, ← Nat.add_mul]
      exact Nat.mul_le_mul_right _ (by omega)
    · intro j hj
      rw [Array.append_assoc, Array.getElem?_append_left (by simp; omega)]
      exact hp j hj
    · intro j u hu
      have hj : j < news.length := (List.getElem?_eq_some_iff.1 hu).1
      rw [Array.getElem?_append_left (by simp; omega), Array.getElem?_append_right (by simp; omega)]
      simp only [List.size_toArray, ho, Nat.add_sub_cancel_left, List.getElem?_toArray]
      exact hu
  refine ⟨fun K Q hK => ?_⟩
  rcases hO.at' with ⟨rfl, rfl⟩ | ⟨cap, rfl, hnc, hcm, hcs, T0, hg⟩
  · have hr := run_append_nil (P := Hvaa.prog) w T ty e i z hU hi g4 ⟨by_, oy, none⟩ m c news hl hnews (by omega) (by omega) (by have hb := hb2; simp only [Nat.zero_add] at hb; rw [g3]; omega)
    have : (execOp (mk n s).eval ⟨d, .call { callee := .builtin .append, args := #[x, y], argTypes := #[T, T] }, ty, pos, af, g⟩).run Hvaa.prog w = .ok (.value (.slice (some ⟨w.heap.size, 0, none⟩) m (grownCap w m 0 e))) (w.drew.alloc (.cells (news.toArray ++ Builtin.zeroCells z.cells (grownCap w m 0 e - m)) e)) := by
      rw [mk_eval']
      simp [execOp, resolve, invoke, builtin, hx, hy, hr]
    unfold Oper.wp
    rw [this]
    exact hK _ _ (grown [] 0 (by simp) (fun i hi => by omega) _ _ (by simp) (by simp))
  · by_cases hroom : N + m ≤ cap
    · have hfit : N * i.size + news.length ≤ cur.size := by rw [hl, ← Nat.add_mul]; exact Nat.le_trans (Nat.mul_le_mul_right _ hroom) hcs
      have hf := run_firstCells_some (P := Hvaa.prog) w i.size m ⟨by_, oy, none⟩ m c news hl hnews
      obtain ⟨w', e1, e2, e3, e4⟩ := run_storeCells_blk bg T0 news w cur (N * i.size) 0 hg (by omega) h1
      have : (execOp (mk n s).eval ⟨d, .call { callee := .builtin .append, args := #[x, y], argTypes := #[T, T] }, ty, pos, af, g⟩).run Hvaa.prog w = .ok (.value (.slice (some ⟨bg, 0, none⟩) (N + m) cap)) w' := by
        rw [mk_eval']
        simp [execOp, resolve, invoke, builtin, hx, hy, Builtin.append_, run_underlying hU, sizeOf, typeInfo, hi, Builtin.lenOf, hroom, hf, addr_add, e1]
      unfold Oper.wp
      rw [this]
      refine hK _ _ ⟨bg, _, ⟨.inr ⟨cap, rfl, hroom, hcm, by rw [size_spl]; exact hcs, T0, e2⟩⟩, ?_, ?_, ?_, .inl rfl⟩
      · intro j hj
        rw [get_spl_out (by omega) (by omega)]
      · intro j u hu
        have := get_spl_in (cs := cur) (o := N * i.size + 0) (by omega) hu
        simpa using this
      · exact ⟨e3.1, e3.2, e3.3, e3.4, fun b hb hM => e3.5 b hb (fun h => hM (by rw [h]; rfl))⟩
    · have hpre : Pre cur (cur.toList.take (N * i.size)).toArray (N * i.size) := fun j hj => by
        rw [List.getElem?_toArray, List.getElem?_take, if_pos hj, Array.getElem?_toList]
      have hole : (cur.toList.take (N * i.size)).length = N * i.size := by
        rw [List.length_take, Array.length_toList]
        exact Nat.min_eq_left (Nat.le_trans (Nat.mul_le_mul_right _ hnc) hcs)
      have holds : ∀ (j : Nat) u, (cur.toList.take (N * i.size))[j]? = some u → w.cell? ((⟨bg, 0, none⟩ : Addr).add j) = some u := fun j u hu => by
        rw [List.getElem?_take] at hu
        split at hu
        · rw [addr_add, Nat.zero_add]
          exact Blk.cell ⟨T0, hg⟩ (by simpa using hu)
        · cases hu
      have hr := run_append_grow (P := Hvaa.prog) w T ty e i z hU hi g4 ⟨bg, 0, none⟩ N cap _ hole holds ⟨by_, oy, none⟩ m c news hl hnews (by omega) (by omega) (growslice_fits (by omega) (by rw [g3]; exact hb2))
      have : (execOp (mk n s).eval ⟨d, .call { callee := .builtin .append, args := #[x, y], argTypes := #[T, T] }, ty, pos, af, g⟩).run Hvaa.prog w = .ok (.value (.slice (some ⟨w.heap.size, 0, none⟩) (N + m) (grownCap w (N + m) cap e))) (w.drew.alloc (.cells ((cur.toList.take (N * i.size)).toArray ++ news.toArray ++ Builtin.zeroCells z.cells (grownCap w (N + m) cap e - (N + m))) e)) := by
        rw [mk_eval']
        simp [execOp, resolve, invoke, builtin, hx, hy, hr]
      unfold Oper.wp
      rw [this]
      exact hK _ _ (grown _ cap hole hpre _ _ rfl rfl)
end
/-! Several cells written at once. -/
theorem Blk.rputs {w : World} {b o : Nat} {cs : Array Value} {vs : List Value} (h : Blk w b (spl cs o vs)) (hz : o + vs.length ≤ cs.size) : RowIn (spl cs o vs) o vs := RowIn.puts hz
theorem Blk.rputmo {w : World} {b o p : Nat} {cs : Array Value} {vs l : List Value} (h : Blk w b (spl cs o vs)) (r : RowIn cs p l) (hz : o + vs.length ≤ cs.size) (hk : o + vs.length ≤ p ∨ p + l.length ≤ o) : RowIn (spl cs o vs) p l := r.offs hz hk
theorem Blk.rputm {w : World} {b o p : Nat} {cs : Array Value} {vs l l' : List Value} (h : Blk w b (spl cs o vs)) (r : RowIn cs p l) (j : Nat) (hz : o + vs.length ≤ cs.size) (e : l.take j ++ vs ++ l.drop (j + vs.length) = l') (hj : j ≤ l.length) (hk : o = p + j := by omega) : RowIn (spl cs o vs) p l' := by
  subst hk e
  intro i u hu
  have hl : (l.take j).length = j := by rw [List.length_take]; omega
  by_cases h1 : i < j
  · rw [List.append_assoc, List.getElem?_append_left (by omega), List.getElem?_take, if_pos h1] at hu
    rw [get_spl_out hz (by omega)]
    exact r i u hu
  · by_cases h2 : i < j + vs.length
    · rw [List.getElem?_append_left (by rw [List.length_append]; omega), List.getElem?_append_right (by omega), hl] at hu
      have := get_spl_in hz hu
      rw [show p + j + (i - j) = p + i by omega] at this
      exact this
    · rw [List.getElem?_append_right (by rw [List.length_append]; omega), List.length_append, hl, List.getElem?_drop] at hu
      rw [get_spl_out hz (by omega)]
      exact r i u (by rw [← hu]; congr 1; omega)
theorem Blk.eputm {w : World} {H : Store} {b q o : Nat} {cs : Array Value} {vs : List Value} {e : YEnv} (h : Blk w b (spl cs o vs)) (g : EC H cs q e) (hz : o + vs.length ≤ cs.size) (hk : o + vs.length ≤ q) : EC H (spl cs o vs) q e := g.sets hz hk
theorem Blk.oputm {w : World} {b p n o : Nat} {a cs : Array Value} {vs : List Value} (h : Blk w b (spl cs o vs)) (g : Out a cs p n) (hz : o + vs.length ≤ cs.size) (h1 : p ≤ o) (h2 : o + vs.length ≤ p + n) : Out a (spl cs o vs) p n := g.trans (Out.spl hz h1 h2)
end Go.Proofs.YgvaawGreat
