import Derived.Test.YgvaawGreatOp
import Derived.Test.YgvaawGreatL4
set_option maxRecDepth 100000
set_option linter.unusedSimpArgs false
set_option linter.unusedVariables false
namespace Go.Proofs.YgvaawGreat
open Go
/-! The arguments of the law, opened. -/
theorem cut_o {α : Type} (l : List α) (o k : Nat) : l.drop o = (l.drop o).take k ++ l.drop (o + k) := by
  rw [← List.drop_drop, List.take_append_drop]
theorem tk_o {cs l : List Value} {n k : Nat} (o : Nat) (hn : n = k) (h : (cs.drop o).take n = l) : (cs.drop o).take k = l := hn ▸ h
section
variable {Hh : Type} {enc : TypeId × Value → Hh} {w : World} {fuel : Nat} {t : TypeId} {cs : List Value} {x : DataW Hh × List MemPlace}
theorem op_fld {fs : Array Field} (ht : Hvaa.prog.underlying t = some (.struct fs)) (h : DataW.trod enc Hvaa.prog w 0 (fun _ => true) true fuel t cs = some x) : cs.length = Hvaa.prog.cellsOf t ∧ ∃ n, ∀ (i : Nat) (f : Field), fs[i]? = some f → ∃ y, DataW.trod enc Hvaa.prog w 0 (fun _ => true) true n f.type ((cs.drop f.offset).take (Hvaa.prog.cellsOf f.type)) = some y := by
  obtain ⟨xs, n, _, _, h1, h2, h3⟩ := DataW.trod_struct ht h
  refine ⟨h1, n, fun i f hf => ?_⟩
  have := h3 i f hf
  have hi : i < xs.length := by rw [h2]; exact (Array.getElem?_eq_some_iff.1 hf).1
  rw [List.getElem?_eq_getElem hi] at this
  exact ⟨_, this⟩
theorem op_slot (h : DataW.trod enc Hvaa.prog w 0 (fun _ => true) true fuel 117 cs = some x) : ∃ z, P_oslot (st0 w) cs z := by
  obtain ⟨hl, n, hf⟩ := op_fld Hvaa.underlying117 h
  rw [cells117] at hl
  obtain ⟨_, h0⟩ := hf 0 _ rfl
  obtain ⟨_, h1⟩ := hf 1 _ rfl
  obtain ⟨k, hk, ek⟩ := op_word h0
  obtain ⟨v, hv, ev⟩ := op_word h1
  replace ek := tk_o 0 cells28 ek
  replace ev := tk_o 32 cells28 ev
  refine ⟨(k, v), ?_, hk, hv⟩
  have e : cs = (cs.drop 0).take 32 ++ ((cs.drop 32).take 32 ++ cs.drop 64) := by
    rw [← cut_o cs 32 32, ← cut_o cs 0 32]
    rfl
  rw [List.drop_of_length_le (show cs.length ≤ 64 by omega), List.append_nil] at e
  rw [e]
  show _ = bL (be 32 k) ++ bL (be 32 v)
  rw [show (cs.drop 0).take 32 = bL (be 32 k) from ek, show (cs.drop 32).take 32 = bL (be 32 v) from ev]
theorem op_slots (h : DataW.trod enc Hvaa.prog w 0 (fun _ => true) true fuel 111 cs = some x) : ∃ v l, cs = [v] ∧ LV P_oslot 64 (st0 w) v l :=
  op_lv Hvaa.underlying111 cells117 (by decide) (fun m c y hy _ => op_slot hy) h
theorem op_acct (h : DataW.trod enc Hvaa.prog w 0 (fun _ => true) true fuel 113 cs = some x) : ∃ A, P_oacct (st0 w) cs A := by
  obtain ⟨hl, n, hf⟩ := op_fld Hvaa.underlying113 h
  rw [cells113] at hl
  obtain ⟨_, h0⟩ := hf 0 _ rfl
  obtain ⟨_, h1⟩ := hf 1 _ rfl
  obtain ⟨_, h2⟩ := hf 2 _ rfl
  obtain ⟨_, h3⟩ := hf 3 _ rfl
  obtain ⟨_, h4⟩ := hf 4 _ rfl
  obtain ⟨a, ha, ea⟩ := op_addr h0
  obtain ⟨nn, en, hn⟩ := op_u64 h1
  obtain ⟨b, hb, eb⟩ := op_word h2
  obtain ⟨vc, cd, ec, hc⟩ := op_bv h3
  obtain ⟨vs, sl, es, hs⟩ := op_slots h4
  replace ea := tk_o 0 cells25 ea
  replace en := tk_o 20 cells26 en
  replace eb := tk_o 21 cells28 eb
  replace ec := tk_o 53 cells38 ec
  replace es := tk_o 54 cells111 es
  refine ⟨⟨a, nn, b, cd, sl⟩, vc, vs, ?_, ha, hc, hs, hn, hb⟩
  have e : cs = (cs.drop 0).take 20 ++ ((cs.drop 20).take 1 ++ ((cs.drop 21).take 32 ++ ((cs.drop 53).take 1 ++ ((cs.drop 54).take 1 ++ cs.drop 55)))) := by
    rw [← cut_o cs 54 1, ← cut_o cs 53 1, ← cut_o cs 21 32, ← cut_o cs 20 1, ← cut_o cs 0 20]
    rfl
  rw [List.drop_of_length_le (show cs.length ≤ 55 by omega), List.append_nil] at e
  rw [e]
  show _ = bL (be 20 a) ++ (.int .u64 (nn : Nat) :: (bL (be 32 b) ++ [vc, vs]))
  rw [show (cs.drop 0).take 20 = bL (be 20 a) from ea, show (cs.drop 20).take 1 = _ from en, show (cs.drop 21).take 32 = bL (be 32 b) from eb, show (cs.drop 53).take 1 = _ from ec, show (cs.drop 54).take 1 = _ from es]
  simp only [List.cons_append, List.nil_append]
theorem op_world (h : DataW.trod enc Hvaa.prog w 0 (fun _ => true) true fuel 23 cs = some x) : ∃ v l, cs = [v] ∧ LV P_oacct 55 (st0 w) v l :=
  op_lv Hvaa.underlying23 cells113 (by decide) (fun m c y hy _ => op_acct hy) h
theorem op_access (h : DataW.trod enc Hvaa.prog w 0 (fun _ => true) true fuel 143 cs = some x) : ∃ z, P_access (st0 w) cs z := by
  obtain ⟨hl, n, hf⟩ := op_fld Hvaa.underlying143 h
  rw [cells143] at hl
  obtain ⟨_, h0⟩ := hf 0 _ rfl
  obtain ⟨_, h1⟩ := hf 1 _ rfl
  obtain ⟨a, ha, ea⟩ := op_addr h0
  obtain ⟨v, l, ev, hv⟩ := op_words h1
  replace ea := tk_o 0 cells25 ea
  replace ev := tk_o 20 cells29 ev
  refine ⟨(a, l), v, ?_, ha, hv⟩
  have e : cs = (cs.drop 0).take 20 ++ ((cs.drop 20).take 1 ++ cs.drop 21) := by
    rw [← cut_o cs 20 1, ← cut_o cs 0 20]
    rfl
  rw [List.drop_of_length_le (show cs.length ≤ 21 by omega), List.append_nil] at e
  rw [e]
  show _ = bL (be 20 a) ++ [v]
  rw [show (cs.drop 0).take 20 = bL (be 20 a) from ea, show (cs.drop 20).take 1 = _ from ev]
theorem op_list (h : DataW.trod enc Hvaa.prog w 0 (fun _ => true) true fuel 39 cs = some x) : ∃ v l, cs = [v] ∧ LV P_access 21 (st0 w) v l :=
  op_lv Hvaa.underlying39 cells143 (by decide) (fun m c y hy _ => op_access hy) h
theorem row_drop {l : List Value} {o : Nat} {m : List Value} {k : Nat} (h : (l.drop o).take k = m) : RowIn l.toArray o m := fun i v hv => by
  rw [← h, List.getElem?_take] at hv
  split at hv
  · rw [List.getElem?_drop] at hv
    rw [List.getElem?_toArray]
    exact hv
  · cases hv
theorem row_cat {cs : Array Value} {o : Nat} {a b : List Value} (h1 : RowIn cs o a) (h2 : RowIn cs (o + a.length) b) : RowIn cs o (a ++ b) := fun i v hv => by
  rcases Nat.lt_or_ge i a.length with hi | hi
  · rw [List.getElem?_append_left hi] at hv
    exact h1 i v hv
  · rw [List.getElem?_append_right hi] at hv
    have := h2 _ v hv
    rw [show o + a.length + (i - a.length) = o + i by omega] at this
    exact this
theorem op_tx (h : DataW.trod enc Hvaa.prog w 0 (fun _ => true) true fuel 41 cs = some x) : ∃ T, P_tx (st0 w) cs T := by
  obtain ⟨hl, n, hf⟩ := op_fld Hvaa.underlying41 h
  rw [cells41] at hl
  obtain ⟨_, h0⟩ := hf 0 _ rfl
  obtain ⟨_, h1⟩ := hf 1 _ rfl
  obtain ⟨_, h2⟩ := hf 2 _ rfl
  obtain ⟨_, h3⟩ := hf 3 _ rfl
  obtain ⟨_, h4⟩ := hf 4 _ rfl
  obtain ⟨_, h5⟩ := hf 5 _ rfl
  obtain ⟨_, h6⟩ := hf 6 _ rfl
  obtain ⟨_, h7⟩ := hf 7 _ rfl
  obtain ⟨_, h8⟩ := hf 8 _ rfl
  obtain ⟨_, h9⟩ := hf 9 _ rfl
  obtain ⟨_, h10⟩ := hf 10 _ rfl
  obtain ⟨_, h11⟩ := hf 11 _ rfl
  obtain ⟨fr, hfr, e0⟩ := op_addr h0
  obtain ⟨to, hto, e1⟩ := op_addr h1
  obtain ⟨cr, e2⟩ := op_bool h2
  obtain ⟨no, e3, hno⟩ := op_u64 h3
  obtain ⟨ga, e4, hga⟩ := op_u64 h4
  obtain ⟨pr, hpr, e5⟩ := op_word h5
  obtain ⟨va, hva, e6⟩ := op_word h6
  obtain ⟨vd, da, e7, hda⟩ := op_bv h7
  obtain ⟨dy, e8⟩ := op_bool h8
  obtain ⟨mf, hmf, e9⟩ := op_word h9
  obtain ⟨ti, hti, e10⟩ := op_word h10
  obtain ⟨vl, ac, e11, hac⟩ := op_list h11
  obtain ⟨dda, ddc, rfl, hd1, hd2, _⟩ := hda.sv.val
  obtain ⟨aaa, aac, rfl, ha1, ha2⟩ := hac.val
  refine ⟨⟨fr, to, cr, no, ga, pr, va, da, dy, mf, ti, ac⟩, ⟨hfr, hto, hno, hga, hpr, hva, hmf, hti, by show da.length < _; omega, by show ac.length < _; omega⟩, dda, ddc, aaa, aac, row_drop e0, row_drop e1, row_cat (a := [.bool cr]) (row_drop e2) (row_cat (a := [.int .u64 (no : Nat)]) (row_drop e3) (row_drop e4)), row_drop e5, row_drop e6, row_cat (a := [.slice dda da.length ddc]) (row_drop e7) (row_drop e8), row_drop e9, row_drop e10, row_drop e11, hda, hac⟩
theorem op_txs (h : DataW.trod enc Hvaa.prog w 0 (fun _ => true) true fuel 32 cs = some x) : ∃ v l, cs = [v] ∧ LV P_tx 174 (st0 w) v l :=
  op_lv Hvaa.underlying32 cells41 (by decide) (fun m c y hy _ => op_tx hy) h
theorem op_env (h : DataW.trod enc Hvaa.prog w 0 (fun _ => true) true fuel 31 cs = some x) : ∃ (e : YEnv) (vh : Value), EB e ∧ cs = envC e vh ∧ LV P_word 32 (st0 w) vh e.hashes := by
  obtain ⟨hl, n, hf⟩ := op_fld Hvaa.underlying31 h
  rw [cells31] at hl
  obtain ⟨_, h0⟩ := hf 0 _ rfl
  obtain ⟨_, h1⟩ := hf 1 _ rfl
  obtain ⟨_, h2⟩ := hf 2 _ rfl
  obtain ⟨_, h3⟩ := hf 3 _ rfl
  obtain ⟨_, h4⟩ := hf 4 _ rfl
  obtain ⟨_, h5⟩ := hf 5 _ rfl
  obtain ⟨_, h6⟩ := hf 6 _ rfl
  obtain ⟨_, h7⟩ := hf 7 _ rfl
  obtain ⟨co, hco, e0⟩ := op_addr h0
  obtain ⟨nu, e1, hnu⟩ := op_u64 h1
  obtain ⟨ti, e2, hti⟩ := op_u64 h2
  obtain ⟨gl, e3, hgl⟩ := op_u64 h3
  obtain ⟨ra, hra, e4⟩ := op_word h4
  obtain ⟨ch, hch, e5⟩ := op_word h5
  obtain ⟨bf, hbf, e6⟩ := op_word h6
  obtain ⟨vh, hs, e7, hhs⟩ := op_words h7
  replace e0 := tk_o 0 cells25 e0
  replace e1 := tk_o 20 cells26 e1
  replace e2 := tk_o 21 cells26 e2
  replace e3 := tk_o 22 cells26 e3
  replace e4 := tk_o 23 cells28 e4
  replace e5 := tk_o 55 cells28 e5
  replace e6 := tk_o 87 cells28 e6
  replace e7 := tk_o 119 cells29 e7
  refine ⟨⟨co, nu, ti, gl, ra, ch, bf, hs⟩, vh, ⟨hco, hnu, hti, hgl, hra, hch, hbf⟩, ?_, hhs⟩
  have e : cs = (cs.drop 0).take 20 ++ ((cs.drop 20).take 1 ++ ((cs.drop 21).take 1 ++ ((cs.drop 22).take 1 ++ ((cs.drop 23).take 32 ++ ((cs.drop 55).take 32 ++ ((cs.drop 87).take 32 ++ ((cs.drop 119).take 1 ++ cs.drop 120))))))) := by
    rw [← cut_o cs 119 1, ← cut_o cs 87 32, ← cut_o cs 55 32, ← cut_o cs 23 32, ← cut_o cs 22 1, ← cut_o cs 21 1, ← cut_o cs 20 1, ← cut_o cs 0 20]
    rfl
  rw [List.drop_of_length_le (show cs.length ≤ 120 by omega), List.append_nil, e0, e1, e2, e3, e4, e5, e6, e7] at e
  rw [e]
  unfold envC
  simp only [List.cons_append, List.nil_append]
end
end Go.Proofs.YgvaawGreat
