import Derived.Test.YgvaawGreatQ8
import Derived.Test.YgvaawGreatYN
import Derived.Test.YgvaawGreatY45
set_option maxRecDepth 100000
set_option maxHeartbeats 4000000
set_option linter.unusedSimpArgs false
set_option linter.unusedVariables false
namespace Go.Proofs.YgvaawGreat
open Go
theorem RowIn.cat {cs : Array Value} {o : Nat} {a b : List Value} (h1 : RowIn cs o a) (h2 : RowIn cs (o + a.length) b) : RowIn cs o (a ++ b) := fun i v hv => by
  by_cases h : i < a.length
  · rw [List.getElem?_append_left h] at hv
    exact h1 i v hv
  · rw [List.getElem?_append_right (by omega)] at hv
    have := h2 (i - a.length) v hv
    rw [show o + a.length + (i - a.length) = o + i by omega] at this
    exact this
theorem RowIn.all {cs : Array Value} {r : List Value} (h : RowIn cs 0 r) (hz : cs.size = r.length) : cs = r.toArray := by
  apply Array.ext_getElem?
  intro i
  by_cases hi : i < r.length
  · have := h i r[i] (List.getElem?_eq_getElem hi)
    rw [Nat.zero_add] at this
    rw [this, List.getElem?_toArray, List.getElem?_eq_getElem hi]
  · rw [Array.getElem?_eq_none (by omega), List.getElem?_toArray, List.getElem?_eq_none (by omega)]
/-- an environment's cells -/
def envC (e : YEnv) (vh : Value) : List Value := bL (be 20 e.coinbase) ++ ([.int .u64 (e.number : Nat), .int .u64 (e.time : Nat), .int .u64 (e.gasLimit : Nat)] ++ (bL (be 32 e.randao) ++ (bL (be 32 e.chainID) ++ (bL (be 32 e.baseFee) ++ [vh]))))
theorem envC_len (e : YEnv) (vh : Value) : (envC e vh).length = 120 := by
  unfold envC
  simp only [List.length_append, length_bL, length_be, List.length_cons, List.length_nil]
theorem envC_one (e : YEnv) {vh : Value} (h : vh.one1 = true) : ∀ v ∈ envC e vh, v.one1 = true := by
  intro v hv
  unfold envC at hv
  simp only [List.mem_append, List.mem_cons, List.not_mem_nil, or_false] at hv
  rcases hv with hv | (hv | hv | hv) | hv | hv | hv | hv
  · exact one_bL _ v hv
  · rw [hv]; rfl
  · rw [hv]; rfl
  · rw [hv]; rfl
  · exact one_bL _ v hv
  · exact one_bL _ v hv
  · exact one_bL _ v hv
  · rw [hv]; exact h
theorem EC.row {H : Store} {cs : Array Value} {o : Nat} {e : YEnv} (h : EC H cs o e) : ∃ ha hc, RowIn cs o (envC e (.slice ha e.hashes.length hc)) ∧ LV P_word 32 H (.slice ha e.hashes.length hc) e.hashes := by
  obtain ⟨ha, hc, h1, h2, h3, h4, h5, h6, h7⟩ := h.ex
  refine ⟨ha, hc, h1.cat ?_, h7⟩
  rw [length_bL, length_be]
  refine RowIn.cat h2 ?_
  refine RowIn.cat (show RowIn cs (o + 20 + 3) _ from h3) ?_
  rw [length_bL, length_be]
  refine RowIn.cat (show RowIn cs (o + 20 + 3 + 32) _ from h4) ?_
  rw [length_bL, length_be]
  refine RowIn.cat (show RowIn cs (o + 20 + 3 + 32 + 32) _ from h5) ?_
  rw [length_bL, length_be]
  exact h6
theorem RowIn.left {cs : Array Value} {o : Nat} {a b : List Value} (h : RowIn cs o (a ++ b)) : RowIn cs o a := fun i v hv => h i v (by rw [List.getElem?_append_left (List.getElem?_eq_some_iff.1 hv).1]; exact hv)
theorem RowIn.right {cs : Array Value} {o : Nat} {a b : List Value} (h : RowIn cs o (a ++ b)) : RowIn cs (o + a.length) b := fun i v hv => by
  have := h (a.length + i) v (by rw [List.getElem?_append_right (by omega), show a.length + i - a.length = i by omega]; exact hv)
  rw [show o + a.length + i = o + (a.length + i) by omega]
  exact this
theorem EC.ofRow {H : Store} {cs : Array Value} {o : Nat} {e : YEnv} {ha : Option Addr} {hc : Nat} (ok : EOk e) (h : RowIn cs o (envC e (.slice ha e.hashes.length hc))) (hl : LV P_word 32 H (.slice ha e.hashes.length hc) e.hashes) : EC H cs o e := by
  unfold envC at h
  have r1 := h.right
  rw [length_bL, length_be] at r1
  have r2 := r1.right
  have r3 := r2.right
  rw [length_bL, length_be] at r3
  have r4 := r3.right
  rw [length_bL, length_be] at r4
  have r5 := r4.right
  rw [length_bL, length_be] at r5
  exact ⟨ok, ha, hc, h.left, r1.left, r2.left, r3.left, r4.left, r5, hl⟩
theorem bld44_2 (sts : Nat) (vo vl : Value) (h1 : vo.one1 = true) (h2 : vl.one1 = true) (w : World) : (Instr.build 44 ([(1, .int .u8 (sts : Nat)), (3, vo), (4, vl)] : List (Nat × Value)).toArray).run Hvaa.prog w = .ok (.agg (rcC 0 sts 0 vo vl 0).toArray) w := by
  cases vo <;> first | exact absurd h1 Bool.false_ne_true | (cases vl <;> first | exact absurd h2 Bool.false_ne_true | kernel_rfl)
theorem rc_used {ver sts used u : Nat} {vo vl : Value} {m : Nat} : spl (rcC ver sts used vo vl m).toArray 2 [.int .u64 (u : Nat)] = (rcC ver sts u vo vl m).toArray := spl_mid [_, _] _ _ _ 2 rfl
/-- the first nineteen cells of a state that rests -/
def st19 (va vt : Value) (ap : Nat) : List Value := [va, .slice none 0 0, .slice none 0 0, .slice none 0 0, .slice none 0 0, .slice none 0 0, .slice none 0 0, .slice none 0 0, .slice none 0 0, .slice none 0 0, .slice none 0 0, .int .u8 ((0 : Nat) : Int), .int .u8 ((0 : Nat) : Int), .int .u8 (ap : Nat), .slice none 0 0, .slice none 0 0, .slice none 0 0, .slice none 0 0, vt]
def stC (va vt : Value) (ap : Nat) (e : YEnv) (vh : Value) : List Value := st19 va vt ap ++ (bL (be 20 0) ++ (bL (be 20 0) ++ envC e vh))
theorem stC_len (va vt : Value) (ap : Nat) (e : YEnv) (vh : Value) : (stC va vt ap e vh).length = 179 := by
  unfold stC
  rw [List.length_append, List.length_append, List.length_append, length_bL, length_be, envC_len]
  rfl
theorem stC_one {va vt vh : Value} {ap : Nat} {e : YEnv} (h1 : va.one1 = true) (h2 : vt.one1 = true) (h3 : vh.one1 = true) : ∀ v ∈ stC va vt ap e vh, v.one1 = true := by
  intro v hv
  unfold stC at hv
  simp only [List.mem_append] at hv
  rcases hv with hv | hv | hv | hv
  · unfold st19 at hv
    simp only [List.mem_cons, List.not_mem_nil, or_false] at hv
    rcases hv with rfl | rfl | rfl | rfl | rfl | rfl | rfl | rfl | rfl | rfl | rfl | rfl | rfl | rfl | rfl | rfl | rfl | rfl | rfl <;> first | rfl | assumption
  · exact one_bL _ v hv
  · exact one_bL _ v hv
  · exact envC_one e h3 v hv
/-- a state that rests -/
structure RestS (s : YSt) : Prop where
  now : s.now = ⟨s.now.accts, [], [], 0, [], [], [], []⟩
  start : s.start = []
  ret : s.ret = []
  phase : s.phase = 0
  status : s.status = 0
  limit : s.limit = 0
  txGas : s.txGas = 0
  left : s.left = 0
  price : s.price = 0
  origin : s.origin = 0
  made : s.made = 0
theorem SC.rest {H : Store} {s : YSt} {va vt vh : Value} {aa ha : Option Addr} {ac hc : Nat} (hr : RestS s) (h1 : va = .slice aa s.now.accts.length ac) (hA : LV P_acct 24 H va s.now.accts) (hT : NV H vt s.total) (h2 : vh = .slice ha s.env.hashes.length hc) (hH : LV P_word 32 H vh s.env.hashes) (eo : EOk s.env) (b1 : s.now.accts.length < 1048576) (b2 : s.applied < 256) (b3 : s.total < W256) : SC H (stC va vt s.applied s.env vh).toArray s (.slice none 0 0) := by
  subst h1
  subst h2
  have hn := hr.now
  have e1 : s.now.warmA = [] := by rw [hn]
  have e2 : s.now.warmS = [] := by rw [hn]
  have e3 : s.now.refund = 0 := by rw [hn]
  have e4 : s.now.logs = [] := by rw [hn]
  have e5 : s.now.temps = [] := by rw [hn]
  have e6 : s.now.made = [] := by rw [hn]
  have e7 : s.now.gone = [] := by rw [hn]
  have hR : RowIn (stC (.slice aa s.now.accts.length ac) vt s.applied s.env (.slice ha s.env.hashes.length hc)).toArray 0 (stC (.slice aa s.now.accts.length ac) vt s.applied s.env (.slice ha s.env.hashes.length hc)) := RowIn.self _
  unfold stC at hR
  have r1 := hR.left
  have r2 := hR.right
  have r3 := r2.right
  rw [length_bL, length_be] at r3
  have r4 := r3.right
  rw [length_bL, length_be] at r4
  refine ⟨⟨b1, by rw [e1]; decide, by rw [e2]; decide, by rw [e3]; decide, by rw [e4]; decide, by rw [e5]; decide, by rw [e6]; decide, by rw [e7]; decide, by rw [hr.start]; decide, by rw [hr.ret]; decide, by rw [hr.phase]; decide, by rw [hr.status]; decide, b2, by rw [hr.limit]; decide, by rw [hr.txGas]; decide, by rw [hr.left]; decide, by rw [hr.price]; decide, b3, by rw [hr.origin]; decide, by rw [hr.made]; decide⟩, EC.ofRow eo r4 hH, by rw [List.size_toArray, stC_len], aa, ac, none, 0, none, 0, .slice none 0 0, none, 0, none, 0, none, 0, none, 0, none, 0, none, 0, .slice none 0 0, .slice none 0 0, .slice none 0 0, .slice none 0 0, vt, ?_, ?_, ?_, hA, ?_, ?_, ?_, ?_, ?_, ?_, ?_, ?_, ?_, ?_, ?_, ?_, hT⟩
  · rw [e1, e2, e4, e5, e6, e7, hr.start, hr.ret, hr.phase, hr.status]
    exact r1
  · rw [hr.origin]
    exact r2.left
  · rw [hr.made]
    exact r3.left
  · rw [e1]; exact LV.nil _ _ _
  · rw [e2]; exact LV.nil _ _ _
  · rw [e3]; exact NV.nil _
  · rw [e5]; exact LV.nil _ _ _
  · rw [e6]; exact LV.nil _ _ _
  · rw [e7]; exact LV.nil _ _ _
  · rw [hr.start]; exact LV.nil _ _ _
  · rw [hr.ret]; exact BV.nil _
  · rw [hr.limit]; exact NV.nil _
  · rw [hr.txGas]; exact NV.nil _
  · rw [hr.left]; exact NV.nil _
  · rw [hr.price]; exact NV.nil _
/-- what the end of a transaction leans on -/
structure FinH (s : YSt) : Prop where
  ph : s.phase = 2
  accts : s.now.accts.length < 1000000
  gone : s.now.gone.length < 40000
  b1 : (acctAt s.now.accts s.origin).bal + bckN s < W256
  b2 : (acctAt (payA1 s) s.env.coinbase).bal + feeN s < W256
  lg : ∀ x ∈ s.now.logs, x.topics.length < 16777216 ∧ x.data.length ≤ 1099511627776
theorem row_r0 {cs : Array Value} {o : Nat} {l : List Value} (h : RowIn cs o l) (i : Nat) {v : Value} (hv : l[i]? = some v) : cs[o + i]? = some v := h i v hv
theorem goes_len2 (g : List Nat) (l : List YAcct) : (goesA l g).length ≤ l.length + g.length := goes_len [] g l
theorem fin_len {s : YSt} (h4 : s.now.accts.length < 1000000) (h5 : s.now.gone.length < 40000) : (finY s).now.accts.length < 1048576 := by
  have h1 := goes_len2 s.now.gone (payA2 s)
  have h2 : (payA2 s).length ≤ (payA1 s).length + 1 := putA_len _ _
  have h3 : (payA1 s).length ≤ s.now.accts.length + 1 := putA_len _ _
  show (goesA (payA2 s) s.now.gone).length < _
  omega
theorem fin_rest (s : YSt) : RestS (finY s) := ⟨rfl, rfl, rfl, rfl, rfl, rfl, rfl, rfl, rfl, rfl, rfl⟩
theorem bld_world {va : Value} (h1 : va.one1 = true) (w : World) : (Instr.build 98 ([(0, va)] : List (Nat × Value)).toArray).run Hvaa.prog w = .ok (Value.agg ([va, Value.slice none 0 0, Value.slice none 0 0, Value.slice none 0 0, Value.slice none 0 0, Value.slice none 0 0, Value.slice none 0 0, Value.slice none 0 0]).toArray) w := by
  have h : (Instr.build 98 ([(0, va)] : List (Nat × Value)).toArray).run Hvaa.prog w = .ok (Value.agg ([([va]), [Value.slice none 0 0], [Value.slice none 0 0], [Value.slice none 0 0], [Value.slice none 0 0], [Value.slice none 0 0], [Value.slice none 0 0], [Value.slice none 0 0]] : List (List Value)).flatten.toArray) w := bld_run zr_98 plc_98 (fill_flat (off := 0) (k := 1) (f := [Value.slice none 0 0]) (c := [va]) (v := va) rfl (cells_one h1) (by first | rfl | (simp [length_bL, length_be]; done)) (by first | rfl | (simp [length_bL, length_be]; done)) rfl (by first | rfl | (simp [length_bL, length_be]; done)) (fill_nil _ _)) w
  rw [h]
  congr 2
theorem bld_rest {va vt : Value} {ap : Nat} {E : List Value} (h2 : vt.one1 = true) (hE : E.length = 120) (w : World) : (Instr.build 102 ([(0, Value.agg ([va, Value.slice none 0 0, Value.slice none 0 0, Value.slice none 0 0, Value.slice none 0 0, Value.slice none 0 0, Value.slice none 0 0, Value.slice none 0 0] : List Value).toArray), (6, Value.int .u8 (ap : Nat)), (11, vt), (14, Value.agg E.toArray)] : List (Nat × Value)).toArray).run Hvaa.prog w = .ok (Value.agg (st19 va vt ap ++ (bL (be 20 0) ++ (bL (be 20 0) ++ E))).toArray) w := by
  have h : (Instr.build 102 ([(0, Value.agg ([va, Value.slice none 0 0, Value.slice none 0 0, Value.slice none 0 0, Value.slice none 0 0, Value.slice none 0 0, Value.slice none 0 0, Value.slice none 0 0] : List Value).toArray), (6, Value.int .u8 (ap : Nat)), (11, vt), (14, Value.agg E.toArray)] : List (Nat × Value)).toArray).run Hvaa.prog w = .ok (Value.agg ([([va, Value.slice none 0 0, Value.slice none 0 0, Value.slice none 0 0, Value.slice none 0 0, Value.slice none 0 0, Value.slice none 0 0, Value.slice none 0 0]), [Value.slice none 0 0], [Value.slice none 0 0], [Value.slice none 0 0], [Value.int .u8 0], [Value.int .u8 0], ([Value.int .u8 (ap : Nat)]), [Value.slice none 0 0], [Value.slice none 0 0], [Value.slice none 0 0], [Value.slice none 0 0], ([vt]), (List.replicate 20 (Value.int .u8 0)), (List.replicate 20 (Value.int .u8 0)), (E)] : List (List Value)).flatten.toArray) w := bld_run zr_102 plc_102 (fill_flat (off := 0) (k := 8) (f := ([[Value.slice none 0 0], [Value.slice none 0 0], [Value.slice none 0 0], [Value.slice none 0 0], [Value.slice none 0 0], [Value.slice none 0 0], [Value.slice none 0 0], [Value.slice none 0 0]] : List (List Value)).flatten) (c := [va, Value.slice none 0 0, Value.slice none 0 0, Value.slice none 0 0, Value.slice none 0 0, Value.slice none 0 0, Value.slice none 0 0, Value.slice none 0 0]) (v := Value.agg ([va, Value.slice none 0 0, Value.slice none 0 0, Value.slice none 0 0, Value.slice none 0 0, Value.slice none 0 0, Value.slice none 0 0, Value.slice none 0 0] : List Value).toArray) rfl rfl (by first | rfl | (simp [hE, length_bL, length_be]; done)) (by first | rfl | (simp [hE, length_bL, length_be]; done)) rfl (by first | rfl | (simp [hE, length_bL, length_be]; done)) (fill_flat (off := 13) (k := 1) (f := [Value.int .u8 0]) (c := [Value.int .u8 (ap : Nat)]) (v := Value.int .u8 (ap : Nat)) rfl rfl (by first | rfl | (simp [hE, length_bL, length_be]; done)) (by first | rfl | (simp [hE, length_bL, length_be]; done)) rfl (by first | rfl | (simp [hE, length_bL, length_be]; done)) (fill_flat (off := 18) (k := 1) (f := [Value.slice none 0 0]) (c := [vt]) (v := vt) rfl (cells_one h2) (by first | rfl | (simp [hE, length_bL, length_be]; done)) (by first | rfl | (simp [hE, length_bL, length_be]; done)) rfl (by first | rfl | (simp [hE, length_bL, length_be]; done)) (fill_flat (off := 59) (k := 120) (f := ([(List.replicate 20 (Value.int .u8 0)), [Value.int .u64 0], [Value.int .u64 0], [Value.int .u64 0], (List.replicate 32 (Value.int .u8 0)), (List.replicate 32 (Value.int .u8 0)), (List.replicate 32 (Value.int .u8 0)), [Value.slice none 0 0]] : List (List Value)).flatten) (c := E) (v := Value.agg E.toArray) rfl rfl (by first | rfl | (simp [hE, length_bL, length_be]; done)) (by first | rfl | (simp [hE, length_bL, length_be]; done)) rfl (by first | rfl | (simp [hE, length_bL, length_be]; done)) (fill_nil _ _))))) w
  rw [h]
  rw [show bL (be 20 0) = List.replicate 20 (Value.int .u8 0) from rfl]
  unfold st19
  simp only [List.flatten_cons, List.flatten_nil, List.append_nil, List.cons_append, List.nil_append]
  rfl
theorem st_all {cs : Array Value} {r : List Value} {a b : Nat} {e : YEnv} {vh : Value} (h1 : RowIn cs 0 r) (hl : r.length = 19) (h2 : RowIn cs 19 (bL (be 20 a))) (h3 : RowIn cs 39 (bL (be 20 b))) (e1 : RowIn cs 59 (bL (be 20 e.coinbase))) (e2 : RowIn cs 79 [.int .u64 (e.number : Nat), .int .u64 (e.time : Nat), .int .u64 (e.gasLimit : Nat)]) (e3 : RowIn cs 82 (bL (be 32 e.randao))) (e4 : RowIn cs 114 (bL (be 32 e.chainID))) (e5 : RowIn cs 146 (bL (be 32 e.baseFee))) (e6 : RowIn cs 178 [vh]) (hz : cs.size = 179) : cs = (r ++ (bL (be 20 a) ++ (bL (be 20 b) ++ envC e vh))).toArray := by
  refine RowIn.all ?_ (by rw [List.length_append, List.length_append, List.length_append, length_bL, length_be, length_bL, length_be, envC_len, hl, hz])
  refine RowIn.join h1 ?_ (by omega : 19 = 0 + r.length)
  refine RowIn.join h2 ?_ (by rw [length_bL, length_be] : 39 = 19 + (bL (be 20 a)).length)
  refine RowIn.join h3 ?_ (by rw [length_bL, length_be] : 59 = 39 + (bL (be 20 b)).length)
  refine RowIn.join e1 ?_ (by rw [length_bL, length_be] : 79 = 59 + (bL (be 20 e.coinbase)).length)
  refine RowIn.join e2 ?_ (rfl : 82 = 79 + 3)
  refine RowIn.join e3 ?_ (by rw [length_bL, length_be] : 114 = 82 + (bL (be 32 e.randao)).length)
  refine RowIn.join e4 ?_ (by rw [length_bL, length_be] : 146 = 114 + (bL (be 32 e.chainID)).length)
  exact RowIn.join e5 e6 (by rw [length_bL, length_be] : 178 = 146 + (bL (be 32 e.baseFee)).length)
theorem st_all2 {cs : Array Value} {r : List Value} {a b : Nat} {e : YEnv} {vh : Value} (h1 : RowIn cs 0 r) (hl : r.length = 19) (ho : ∀ v ∈ r, v.one1 = true) (hv : vh.one1 = true) (h2 : RowIn cs 19 (bL (be 20 a))) (h3 : RowIn cs 39 (bL (be 20 b))) (e1 : RowIn cs 59 (bL (be 20 e.coinbase))) (e2 : RowIn cs 79 [.int .u64 (e.number : Nat), .int .u64 (e.time : Nat), .int .u64 (e.gasLimit : Nat)]) (e3 : RowIn cs 82 (bL (be 32 e.randao))) (e4 : RowIn cs 114 (bL (be 32 e.chainID))) (e5 : RowIn cs 146 (bL (be 32 e.baseFee))) (e6 : RowIn cs 178 [vh]) (hz : cs.size = 179) : ∃ r9 : List Value, cs = r9.toArray ∧ r9.length = 179 ∧ (∀ v ∈ r9, v.one1 = true) ∧ RowIn r9.toArray 59 (envC e vh) := by
  have key := st_all h1 hl h2 h3 e1 e2 e3 e4 e5 e6 hz
  refine ⟨_, key, by rw [List.length_append, List.length_append, List.length_append, length_bL, length_be, length_bL, length_be, envC_len, hl], ?_, ?_⟩
  · intro v hv9
    simp only [List.mem_append] at hv9
    rcases hv9 with h | h | h | h
    · exact ho v h
    · exact one_bL _ v h
    · exact one_bL _ v h
    · exact envC_one e hv v h
  · have hR := (RowIn.self (r ++ (bL (be 20 a) ++ (bL (be 20 b) ++ envC e vh)))).right.right.right
    rw [hl, length_bL, length_be, length_bL, length_be] at hR
    exact hR
theorem yp_finish {w : World} {H : Store} (hF : Fz w H) (bs : Nat) (cs : Array Value) (s : YSt) (vf : Value) (kS : Blk w bs cs) (hs : SC H cs s vf) (hfr : s.frames = []) (nbS : ¬ H.has bs) (hvf : vf.one1 = true) {ol : Option Nat} {vl : Value} (kL : LG w H ol vl s.now.logs) (hvl : cs[4]? = some vl) (dL : ∀ b, ol = some b → b < w.heap.size ∧ b ≠ bs) (hfh : FinH s) :
    Ret 21 [.pointer (some ⟨bs, 0, none⟩)] w (fun v w' => ∃ H' cs' qa qc lq lr, v = .agg (rcC 0 s.status (useN s) (.slice qa s.ret.length qc) (.slice lq s.now.logs.length lr) (if s.status = 0 then s.made else 0)).toArray ∧ BV H' (.slice qa s.ret.length qc) s.ret ∧ LV P_log 22 H' (.slice lq s.now.logs.length lr) s.now.logs ∧ Go (fun k => k = bs) w H w' H' ∧ Blk w' bs cs' ∧ SC H' cs' (finY s) (.slice none 0 0) ∧ cs'[4]? = some (.slice none 0 0)) := by
  obtain ⟨aa, ac, wa, wc, sa, sc, vr, la, lc, ta, tc, ma, mc, ga, gc, oa, oc, ra, rc, vlim, vtx, vleft, vpr, vtot, rS, rOr, rMd, hAc, hWA, hWS, hRf, hTm, hMd, hGn, hSr, hRt, hLm, hTx, hLf, hPr, hTt⟩ := hs.ex
  have so := hs.ok
  have so1 := so.accts
  have so2 := so.warmA
  have so3 := so.warmS
  have so4 := so.temps
  have so5 := so.start
  have so6 := so.logs
  have so7 := so.made
  have so8 := so.gone
  have so9 := so.ret
  have eC := hs.env
  obtain ⟨eha, ehc, rE1, rE2, rE3, rE4, rE5, rE6, hHs⟩ := hs.env.ex
  have eo := hs.env.ok
  have eo1 := eo.hashes
  have lS := kS.lt
  have hv4 := rS 4 _ rfl
  obtain rfl : vl = .slice la s.now.logs.length lc := by rw [hvl] at hv4; exact Option.some.inj hv4
  have hph := hfh.ph
  have hfa := hfh.accts
  have hfg := hfh.gone
  refine enter (n := 164) Hvaa.func21 rfl rfl (Nat.le_of_ble_eq_true rfl) ?_
  have U : Ch (fun k => k = bs) w w := Ch.refl _ w
  have G : Go (fun k => k = bs) w H w H := Go.refl hF
  have hL0 : Le H H := Le.refl H
  refine c_seq (fun K1 hK1 => ?_)
  exact (by
    refine c_region ?_
    refine l_eff (e_alloc zr_44) (fun v2 w2 h2 => ?_)
    obtain ⟨b2, rfl, n2⟩ := h2
    have f2 : w.heap.size ≤ b2 := Nat.le_trans U.size n2.fresh
    have nb2 := hF.nb n2.fresh
    replace G := G.tr (Go.ofUp hF n2.up)
    replace hF := hF.up n2.up
    replace kS := kS.up n2.up
    replace kL := kL.up n2.up
    replace U := U.tr n2.up
    have k2 := n2.blk
    obtain ⟨zs2, hz2, k2⟩ : ∃ cs : Array Value, cs.size = 25 ∧ Blk w2 b2 cs := ⟨_, rfl, k2⟩
    refine l_nil ?_
    refine hK1 _ _ ?_
    refine c_seq (fun K3 hK3 => ?_)
    exact (by
      refine c_region ?_
      refine l_step (y_moveV (et (gS rfl g0) rfl)) ?_
      refine l_step (y_nil (et g0 rfl)) ?_
      refine l_step (y_fld fld_104_0 (et g0 rfl)) ?_
      refine l_step (y_assignV (et g0 rfl)) ?_
      refine l_nil ?_
      refine hK3 _ _ ?_
      refine fg2 2 3 (gS rfl (gS rfl (gS rfl (gS rfl g0)))) g0 (fun g => ?_)
      refine c_seq (fun K4 hK4 => ?_)
      refine c_seq (fun K5 hK5 => ?_)
      exact (by
        refine c_region ?_
        refine l_step (y_moveV (et g0 rfl)) ?_
        refine l_step (y_nil (et g0 rfl)) ?_
        refine l_step (y_fld fld_102_4 (et g0 rfl)) ?_
        refine l_step (y_load1 one_5 (et g0 rfl) (at1 (kS.cell (rS 11 _ rfl)))) ?_
        refine l_step (y_neq (et g0 rfl) rfl) ?_
        refine l_nil ?_
        refine hK5 _ _ ?_
        refine fg3 2 3 17 (gS rfl (gS rfl (gS rfl (gS rfl (gS rfl (gS rfl g0)))))) (gS rfl (gS rfl (gS rfl (gS rfl (gS rfl g0))))) g0 (fun g => ?_)
        refine c_false (et g0 rfl) (by (exact decide_eq_false (by omega))) ?_
        refine c_skip ?_
        refine hK4 _ _ ?_
        refine fg2 2 3 (gS rfl (gS rfl g0)) (gS rfl g0) (fun g => ?_)
        refine c_seq (fun K7 hK7 => ?_)
        exact (by
          refine c_draw Up 10 [(0, true), (1, true), (2, true), (3, true), (4, true), (5, true), (6, true), (7, true), (8, false), (9, true)] (by kernel_rfl) (fun w8 hu => ⟨Up.refl _, ?_⟩)
          replace G := G.tr (Go.ofUp hF hu)
          replace hF := hF.up hu
          replace k2 := k2.up hu
          replace kS := kS.up hu
          replace kL := kL.up hu
          replace U := U.tr hu
          have SU := Up.refl w8
          refine p_step (by exact rfl) (y_moveV (et g0 rfl)) ?_
          refine p_step (by exact rfl) (y_nil (et g0 rfl)) ?_
          refine p_step (by exact rfl) (y_fld fld_102_7 (et g0 rfl)) ?_
          refine p_step (by exact rfl) (y_load1 one_95 (et g0 rfl) (atS (kS.cell (rS 14 _ rfl)))) ?_
          refine p_step (by exact rfl) (y_moveV (et (gS rfl (gS rfl (gS rfl (gS rfl g0)))) rfl)) ?_
          refine p_step (by exact rfl) (y_nil (et g0 rfl)) ?_
          refine p_step (by exact rfl) (y_fld fld_102_9 (et g0 rfl)) ?_
          refine p_step (by exact rfl) (y_load1 one_95 (et g0 rfl) (atS (kS.cell (rS 16 _ rfl)))) ?_
          refine p_eff (by exact rfl) (e_callV cal_45 (aC (et (gS rfl (gS rfl (gS rfl (gS rfl g0)))) rfl) (aC (et g0 rfl) aN)) (yp_less hF (hLm.mono hL0) (hLf.mono hL0) (bd_sm (bd_64 so.limit) (by decide)) (bd_sm (bd_64 so.left) (by decide)))) (fun v9 w9 h9 => ?_)
          obtain ⟨H9, g9, n9⟩ := h9
          have hlew9 := g9.le
          replace nb2 := g9.nb nb2 k2.lt
          replace nbS := g9.nb nbS kS.lt
          replace hL0 := hL0.trans hlew9
          replace k2 := k2.up g9.up
          replace kS := kS.up g9.up
          replace kL := kL.up g9.up
          replace U := U.tr g9.up
          replace G := G.tr g9
          replace hF := g9.fz
          have q9 := bd_sub' n9 (bd_64 so.limit)
          refine ⟨.inr (SU.tr g9.up), ?_⟩
          replace SU := SU.tr g9.up
          exact (by
            refine p_step (by exact rfl) (y_assignV (et g0 rfl)) ?_
            refine p_nil ?_
            refine hK7 _ _ ?_
            refine fg3 2 3 4 (gS rfl (gS rfl (gS rfl (gS rfl (gS rfl (gS rfl (gS rfl (gS rfl (gS rfl (gS rfl (gS rfl g0))))))))))) (gS rfl (gS rfl (gS rfl (gS rfl (gS rfl (gS rfl (gS rfl (gS rfl (gS rfl (gS rfl g0)))))))))) g0 (fun g => ?_)
            refine c_seq (fun K10 hK10 => ?_)
            exact (by
              refine c_draw Up 11 [(0, true), (1, true), (2, true), (3, true), (4, true), (5, true), (6, true), (7, false), (8, false), (9, false), (10, true)] (by kernel_rfl) (fun w11 hu => ⟨Up.refl _, ?_⟩)
              replace G := G.tr (Go.ofUp hF hu)
              replace hF := hF.up hu
              replace k2 := k2.up hu
              replace kS := kS.up hu
              replace kL := kL.up hu
              replace U := U.tr hu
              have SU := Up.refl w11
              refine p_step (by exact rfl) (y_moveV (et g0 rfl)) ?_
              refine p_step (by exact rfl) (y_moveV (et (gS rfl (gS rfl g0)) rfl)) ?_
              refine p_step (by exact rfl) (y_nil (et g0 rfl)) ?_
              refine p_step (by exact rfl) (y_fld fld_102_0 (et g0 rfl)) ?_
              refine p_step (by exact rfl) (y_fld fld_98_3 (et g0 rfl)) ?_
              refine p_step (by exact rfl) (y_load1 one_95 (et g0 rfl) (atS (kS.cell (rS 3 _ rfl)))) ?_
              refine p_step (by exact rfl) (y_moveV (et (gS rfl (gS rfl (gS rfl (gS rfl (gS rfl (gS rfl g0)))))) rfl)) ?_
              refine p_eff (by exact rfl) (e_callV cal_69 (aC (et g0 rfl) (aC (v := .int .u64 ((5 : Nat) : Int)) rfl aN)) (yp_divided 5 (by decide) (by decide) hF n9 (bd_sm q9 (by decide)))) (fun v12 w12 h12 => ?_)
              obtain ⟨H12, g12, n12⟩ := h12
              have hlew12 := g12.le
              replace nb2 := g12.nb nb2 k2.lt
              replace nbS := g12.nb nbS kS.lt
              replace n9 := n9.mono hlew12
              replace hL0 := hL0.trans hlew12
              replace k2 := k2.up g12.up
              replace kS := kS.up g12.up
              replace kL := kL.up g12.up
              replace U := U.tr g12.up
              replace G := G.tr g12
              replace hF := g12.fz
              have q12 := bd_div (y := 5) q9
              refine ⟨.inr (SU.tr g12.up), ?_⟩
              replace SU := SU.tr g12.up
              exact (by
                refine p_eff (by exact rfl) (e_callV cal_68 (aC (et (gS rfl (gS rfl g0)) rfl) (aC (et g0 rfl) aN)) (yp_min hF (hRf.mono hL0) n12 (bd_sm (bd_64 so.refund) (by decide)) (bd_sm q12 (by decide)))) (fun v13 w13 h13 => ?_)
                obtain ⟨H13, g13, n13⟩ := h13
                have hlew13 := g13.le
                replace nb2 := g13.nb nb2 k2.lt
                replace nbS := g13.nb nbS kS.lt
                replace n9 := n9.mono hlew13
                replace n12 := n12.mono hlew13
                replace hL0 := hL0.trans hlew13
                replace k2 := k2.up g13.up
                replace kS := kS.up g13.up
                replace kL := kL.up g13.up
                replace U := U.tr g13.up
                replace G := G.tr g13
                replace hF := g13.fz
                have q13 := bd_min' n13 q12
                refine ⟨.inr (SU.tr g13.up), ?_⟩
                replace SU := SU.tr g13.up
                refine p_eff (by exact rfl) (e_callV cal_45 (aC (et (gS rfl (gS rfl (gS rfl (gS rfl (gS rfl (gS rfl (gS rfl (gS rfl g0)))))))) rfl) (aC (et g0 rfl) aN)) (yp_less hF n9 n13 (bd_sm q9 (by decide)) (bd_sm q13 (by decide)))) (fun v14 w14 h14 => ?_)
                obtain ⟨H14, g14, n14⟩ := h14
                have hlew14 := g14.le
                replace nb2 := g14.nb nb2 k2.lt
                replace nbS := g14.nb nbS kS.lt
                replace n9 := n9.mono hlew14
                replace n12 := n12.mono hlew14
                replace n13 := n13.mono hlew14
                replace hL0 := hL0.trans hlew14
                replace k2 := k2.up g14.up
                replace kS := kS.up g14.up
                replace kL := kL.up g14.up
                replace U := U.tr g14.up
                replace G := G.tr g14
                replace hF := g14.fz
                have q14 := bd_sub' n14 q9
                refine ⟨.inr (SU.tr g14.up), ?_⟩
                replace SU := SU.tr g14.up
                exact (by
                  refine p_step (by exact rfl) (y_assignV (et g0 rfl)) ?_
                  refine p_nil ?_
                  refine hK10 _ _ ?_
                  refine fg3 2 3 5 (gS rfl (gS rfl (gS rfl (gS rfl (gS rfl (gS rfl (gS rfl (gS rfl (gS rfl (gS rfl (gS rfl (gS rfl (gS rfl g0))))))))))))) (gS rfl (gS rfl (gS rfl (gS rfl (gS rfl (gS rfl (gS rfl (gS rfl (gS rfl (gS rfl (gS rfl (gS rfl g0)))))))))))) g0 (fun g => ?_)
                  refine c_seq (fun K15 hK15 => ?_)
                  exact (by
                    refine c_draw Up 12 [(0, true), (1, true), (2, true), (3, true), (4, true), (6, true), (7, true), (8, true), (9, true), (5, false), (10, false), (11, true)] (by kernel_rfl) (fun w16 hu => ⟨Up.refl _, ?_⟩)
                    replace G := G.tr (Go.ofUp hF hu)
                    replace hF := hF.up hu
                    replace k2 := k2.up hu
                    replace kS := kS.up hu
                    replace kL := kL.up hu
                    replace U := U.tr hu
                    have SU := Up.refl w16
                    refine p_step (by exact rfl) (y_moveV (et (gS rfl g0) rfl)) ?_
                    refine p_step (by exact rfl) (y_nil (et g0 rfl)) ?_
                    refine p_step (by exact rfl) (y_fld fld_102_7 (et g0 rfl)) ?_
                    refine p_step (by exact rfl) (y_load1 one_95 (et g0 rfl) (atS (kS.cell (rS 14 _ rfl)))) ?_
                    refine p_step (by exact rfl) (y_moveV (et (gS rfl (gS rfl (gS rfl (gS rfl g0)))) rfl)) ?_
                    refine p_step (by exact rfl) (y_moveV (et (gS rfl (gS rfl (gS rfl (gS rfl (gS rfl (gS rfl g0)))))) rfl)) ?_
                    refine p_step (by exact rfl) (y_nil (et g0 rfl)) ?_
                    refine p_step (by exact rfl) (y_fld fld_102_10 (et g0 rfl)) ?_
                    refine p_step (by exact rfl) (y_load1 one_95 (et g0 rfl) (atS (kS.cell (rS 17 _ rfl)))) ?_
                    refine p_eff (by exact rfl) (e_callV cal_45 (aC (et (gS rfl (gS rfl (gS rfl (gS rfl (gS rfl g0))))) rfl) (aC (et (gS rfl (gS rfl (gS rfl (gS rfl g0)))) rfl) aN)) (yp_less hF (hLm.mono hL0) n14 (bd_sm (bd_64 so.limit) (by decide)) (bd_sm q14 (by decide)))) (fun v17 w17 h17 => ?_)
                    obtain ⟨H17, g17, n17⟩ := h17
                    have hlew17 := g17.le
                    replace nb2 := g17.nb nb2 k2.lt
                    replace nbS := g17.nb nbS kS.lt
                    replace n9 := n9.mono hlew17
                    replace n12 := n12.mono hlew17
                    replace n13 := n13.mono hlew17
                    replace n14 := n14.mono hlew17
                    replace hL0 := hL0.trans hlew17
                    replace k2 := k2.up g17.up
                    replace kS := kS.up g17.up
                    replace kL := kL.up g17.up
                    replace U := U.tr g17.up
                    replace G := G.tr g17
                    replace hF := g17.fz
                    have q17 := bd_sub' n17 (bd_64 so.limit)
                    refine ⟨.inr (SU.tr g17.up), ?_⟩
                    replace SU := SU.tr g17.up
                    exact (by
                      refine p_eff (by exact rfl) (e_callV cal_50 (aC (et g0 rfl) (aC (et (gS rfl g0) rfl) aN)) (nat_mul hF n17 (hPr.mono hL0) (bd_sm q17 (by decide)) (bd_sm (bd_W so.price) (by decide)))) (fun v18 w18 h18 => ?_)
                      obtain ⟨H18, g18, n18⟩ := h18
                      have hlew18 := g18.le
                      replace nb2 := g18.nb nb2 k2.lt
                      replace nbS := g18.nb nbS kS.lt
                      replace n9 := n9.mono hlew18
                      replace n12 := n12.mono hlew18
                      replace n13 := n13.mono hlew18
                      replace n14 := n14.mono hlew18
                      replace n17 := n17.mono hlew18
                      replace hL0 := hL0.trans hlew18
                      replace k2 := k2.up g18.up
                      replace kS := kS.up g18.up
                      replace kL := kL.up g18.up
                      replace U := U.tr g18.up
                      replace G := G.tr g18
                      replace hF := g18.fz
                      have q18 := bd_mul (c := 40) q17 (bd_W so.price) (by decide)
                      refine ⟨.inr (SU.tr g18.up), ?_⟩
                      replace SU := SU.tr g18.up
                      refine p_step (by exact rfl) (y_assignV (et g0 rfl)) ?_
                      refine p_nil ?_
                      refine hK15 _ _ ?_
                      refine fg4 2 3 5 6 (gS rfl (gS rfl (gS rfl (gS rfl (gS rfl (gS rfl (gS rfl (gS rfl (gS rfl (gS rfl (gS rfl (gS rfl (gS rfl (gS rfl g0)))))))))))))) (gS rfl (gS rfl (gS rfl (gS rfl (gS rfl (gS rfl (gS rfl (gS rfl (gS rfl (gS rfl (gS rfl (gS rfl (gS rfl g0))))))))))))) (gS rfl (gS rfl (gS rfl (gS rfl (gS rfl (gS rfl (gS rfl (gS rfl (gS rfl (gS rfl (gS rfl (gS rfl g0)))))))))))) g0 (fun g => ?_)
                      refine c_seq (fun K19 hK19 => ?_)
                      exact (by
                        refine c_draw Up 18 [(0, true), (1, true), (2, true), (3, true), (4, true), (5, true), (6, true), (7, true), (8, true), (9, true), (10, true), (11, true), (12, true), (13, true), (16, true), (14, false), (15, true), (17, false), (18, false)] (by kernel_rfl) (fun w20 hu => ⟨Up.refl _, ?_⟩)
                        replace G := G.tr (Go.ofUp hF hu)
                        replace hF := hF.up hu
                        replace k2 := k2.up hu
                        replace kS := kS.up hu
                        replace kL := kL.up hu
                        replace U := U.tr hu
                        have SU := Up.refl w20
                        refine p_step (by exact rfl) (y_moveV (et (gS rfl (gS rfl g0)) rfl)) ?_
                        refine p_step (by exact rfl) (y_nil (et g0 rfl)) ?_
                        refine p_step (by exact rfl) (y_fld fld_102_0 (et g0 rfl)) ?_
                        refine p_step (by exact rfl) (y_moveV (et (gS rfl (gS rfl (gS rfl (gS rfl (gS rfl g0))))) rfl)) ?_
                        refine p_step (by exact rfl) (y_nil (et g0 rfl)) ?_
                        refine p_step (by exact rfl) (y_fld fld_102_12 (et g0 rfl)) ?_
                        refine p_step (by exact rfl) (y_loadR agg_25 sz_25 (et g0 rfl) (by rw [length_bL, length_be]) (atSR (kS.row rOr))) ?_
                        refine p_step (by exact rfl) (y_moveV (et (gS rfl (gS rfl (gS rfl (gS rfl (gS rfl (gS rfl (gS rfl (gS rfl (gS rfl g0))))))))) rfl)) ?_
                        refine p_step (by exact rfl) (y_nil (et g0 rfl)) ?_
                        refine p_step (by exact rfl) (y_fld fld_102_0 (et g0 rfl)) ?_
                        refine p_step (by exact rfl) (y_moveV (et (gS rfl (gS rfl (gS rfl (gS rfl (gS rfl (gS rfl (gS rfl (gS rfl (gS rfl (gS rfl (gS rfl (gS rfl g0)))))))))))) rfl)) ?_
                        refine p_step (by exact rfl) (y_nil (et g0 rfl)) ?_
                        refine p_step (by exact rfl) (y_fld fld_102_12 (et g0 rfl)) ?_
                        refine p_step (by exact rfl) (y_loadR agg_25 sz_25 (et g0 rfl) (by rw [length_bL, length_be]) (atSR (kS.row rOr))) ?_
                        refine p_step (by exact rfl) (y_moveV (et (gS rfl (gS rfl (gS rfl (gS rfl (gS rfl (gS rfl (gS rfl (gS rfl (gS rfl (gS rfl (gS rfl (gS rfl (gS rfl (gS rfl g0)))))))))))))) rfl)) ?_
                        refine p_eff (by exact rfl) (e_callV cal_43 (aC (et (gS rfl (gS rfl (gS rfl (gS rfl (gS rfl g0))))) rfl) (aC (et (gS rfl g0) rfl) aN)) (yp_account _ _ _ _ _ _ _ _ _ hF kS (rS 0 _ rfl) (hAc.mono hL0) so.origin (by omega))) (fun v21 w21 h21 => ?_)
                        obtain ⟨c21, rfl, p21, u21⟩ := h21
                        replace G := G.tr (Go.ofUp hF u21)
                        replace hF := hF.up u21
                        replace k2 := k2.up u21
                        replace kS := kS.up u21
                        replace kL := kL.up u21
                        replace U := U.tr u21
                        replace p21 : PA _ _ _ := ⟨p21⟩
                        refine ⟨.inr (SU.tr u21), ?_⟩
                        replace SU := SU.tr u21
                        exact (by
                          obtain ⟨vn22, vb22, vc22, vs22, hc22, hn22, hbb22, hcd22, hb122, hb222⟩ := acct_form p21.p
                          rw [hc22]
                          refine p_step (by exact rfl) (y_fldV (f := 2) Hvaa.underlying107 rfl rfl rfl one_95 (et g0 rfl) ((app20 (i := 1) rfl).trans rfl)) ?_
                          refine p_eff (by exact rfl) (e_callV cal_34 (aC (et g0 rfl) (aC (et (gS rfl (gS rfl g0)) rfl) aN)) (nat_add hF hbb22 n18 (bd_sm (bd_W hb222) (by decide)) (bd_sm q18 (by decide)))) (fun v23 w23 h23 => ?_)
                          obtain ⟨H23, g23, n23⟩ := h23
                          have hlew23 := g23.le
                          replace nb2 := g23.nb nb2 k2.lt
                          replace nbS := g23.nb nbS kS.lt
                          replace n9 := n9.mono hlew23
                          replace n12 := n12.mono hlew23
                          replace n13 := n13.mono hlew23
                          replace n14 := n14.mono hlew23
                          replace n17 := n17.mono hlew23
                          replace n18 := n18.mono hlew23
                          replace p21 := p21.mono hlew23
                          replace hn22 := hn22.mono hlew23
                          replace hbb22 := hbb22.mono hlew23
                          replace hcd22 := hcd22.mono hlew23
                          replace hL0 := hL0.trans hlew23
                          replace k2 := k2.up g23.up
                          replace kS := kS.up g23.up
                          replace kL := kL.up g23.up
                          replace U := U.tr g23.up
                          replace G := G.tr g23
                          replace hF := g23.fz
                          have q23 := bd_add (c := 41) (bd_W hb222) q18 (by decide)
                          refine ⟨.inr (SU.tr g23.up), ?_⟩
                          replace SU := SU.tr g23.up
                          refine p_eff (by exact rfl) (e_callV cal_49 (aC (et (gS rfl (gS rfl (gS rfl (gS rfl (gS rfl (gS rfl (gS rfl (gS rfl (gS rfl (gS rfl (gS rfl (gS rfl (gS rfl (gS rfl (gS rfl g0))))))))))))))) rfl) (aC (et (gS rfl (gS rfl (gS rfl (gS rfl (gS rfl (gS rfl (gS rfl (gS rfl (gS rfl (gS rfl (gS rfl g0))))))))))) rfl) (aC (et g0 rfl) aN))) (yp_setBalance _ _ _ _ _ _ _ _ _ hF kS nbS (rS 0 _ rfl) (hAc.mono hL0) so.origin (by omega) n23 hfh.b1)) (fun v24 w24 h24 => ?_)
                          obtain ⟨rfl, z24, H24, g24, lv24, kx24⟩ := h24
                          have hlew24 := g24.le
                          replace nb2 := g24.nb nb2 k2.lt
                          replace nbS := g24.nb nbS kS.lt
                          replace n9 := n9.mono hlew24
                          replace n12 := n12.mono hlew24
                          replace n13 := n13.mono hlew24
                          replace n14 := n14.mono hlew24
                          replace n17 := n17.mono hlew24
                          replace n18 := n18.mono hlew24
                          replace p21 := p21.mono hlew24
                          replace hn22 := hn22.mono hlew24
                          replace hbb22 := hbb22.mono hlew24
                          replace hcd22 := hcd22.mono hlew24
                          replace n23 := n23.mono hlew24
                          replace hL0 := hL0.trans hlew24
                          replace k2 := k2.ch g24.ch (by first | omega | (intro b hb; have := dL b hb; omega))
                          replace kL := kL.ch g24.ch (by intro b hb hm; have := dL b hb; omega)
                          replace kS := kx24
                          replace U := U.cc g24.ch (by intro b hb; first | omega | exact .inl hb | exact .inr (hb ▸ U))
                          replace G := G.trans g24 (by intro b hb; first | omega | exact .inl hb | (simp at hb ⊢; omega))
                          replace hF := g24.fz
                          obtain ⟨xa24, xc24, rfl, hxl24, hxc24⟩ := lv24.val
                          replace eC := kS.eset eC (by omega)
                          replace rS : RowIn _ _ [_, .slice wa s.now.warmA.length wc, .slice sa s.now.warmS.length sc, vr, .slice la s.now.logs.length lc, .slice ta s.now.temps.length tc, .slice ma s.now.made.length mc, .slice ga s.now.gone.length gc, .slice oa s.start.length oc, vf, .slice ra s.ret.length rc, .int .u8 (s.phase : Nat), .int .u8 (s.status : Nat), .int .u8 (s.applied : Nat), vlim, vtx, vleft, vpr, vtot] := kS.rset rS 0 rfl
                          replace rOr := kS.rseto rOr (by first | (left; omega) | (right; simp only [List.length_cons, List.length_nil, length_bL, length_be]; omega))
                          replace rMd := kS.rseto rMd (by first | (left; omega) | (right; simp only [List.length_cons, List.length_nil, length_bL, length_be]; omega))
                          replace rE1 := kS.rseto rE1 (by first | (left; omega) | (right; simp only [List.length_cons, List.length_nil, length_bL, length_be]; omega))
                          replace rE2 := kS.rseto rE2 (by first | (left; omega) | (right; simp only [List.length_cons, List.length_nil, length_bL, length_be]; omega))
                          replace rE3 := kS.rseto rE3 (by first | (left; omega) | (right; simp only [List.length_cons, List.length_nil, length_bL, length_be]; omega))
                          replace rE4 := kS.rseto rE4 (by first | (left; omega) | (right; simp only [List.length_cons, List.length_nil, length_bL, length_be]; omega))
                          replace rE5 := kS.rseto rE5 (by first | (left; omega) | (right; simp only [List.length_cons, List.length_nil, length_bL, length_be]; omega))
                          replace rE6 := kS.rseto rE6 (by first | (left; omega) | (right; simp only [List.length_cons, List.length_nil, length_bL, length_be]; omega))
                          refine ⟨.inl rfl, ?_⟩
                          refine p_nil ?_
                          refine hK19 _ _ ?_
                          refine fg3 2 3 5 (gS rfl (gS rfl (gS rfl (gS rfl (gS rfl (gS rfl (gS rfl (gS rfl (gS rfl (gS rfl (gS rfl (gS rfl (gS rfl (gS rfl (gS rfl (gS rfl (gS rfl (gS rfl (gS rfl (gS rfl (gS rfl (gS rfl g0)))))))))))))))))))))) (gS rfl (gS rfl (gS rfl (gS rfl (gS rfl (gS rfl (gS rfl (gS rfl (gS rfl (gS rfl (gS rfl (gS rfl (gS rfl (gS rfl (gS rfl (gS rfl (gS rfl (gS rfl (gS rfl (gS rfl (gS rfl g0))))))))))))))))))))) (gS rfl (gS rfl (gS rfl (gS rfl (gS rfl (gS rfl (gS rfl (gS rfl (gS rfl (gS rfl (gS rfl (gS rfl (gS rfl (gS rfl (gS rfl (gS rfl (gS rfl (gS rfl (gS rfl (gS rfl g0)))))))))))))))))))) (fun g => ?_)
                          refine c_seq (fun K25 hK25 => ?_)
                          exact (by
                            refine c_draw Up 10 [(0, true), (1, true), (2, true), (3, true), (4, true), (5, true), (6, false), (7, false), (8, false), (9, true)] (by kernel_rfl) (fun w26 hu => ⟨Up.refl _, ?_⟩)
                            replace G := G.tr (Go.ofUp hF hu)
                            replace hF := hF.up hu
                            replace k2 := k2.up hu
                            replace kS := kS.up hu
                            replace kL := kL.up hu
                            replace U := U.tr hu
                            have SU := Up.refl w26
                            refine p_step (by exact rfl) (y_moveV (et g0 rfl)) ?_
                            refine p_step (by exact rfl) (y_moveV (et (gS rfl (gS rfl g0)) rfl)) ?_
                            refine p_step (by exact rfl) (y_nil (et g0 rfl)) ?_
                            refine p_step (by exact rfl) (y_fld fld_102_10 (et g0 rfl)) ?_
                            refine p_step (by exact rfl) (y_load1 one_95 (et g0 rfl) (atS (kS.cell (rS 17 _ rfl)))) ?_
                            refine p_step (by exact rfl) (y_moveV (et (gS rfl (gS rfl (gS rfl (gS rfl (gS rfl (gS rfl g0)))))) rfl)) ?_
                            have hsP : SC H24 _ { s with now := { s.now with accts := payA1 s } } vf := ⟨⟨by show (payA1 s).length < _; have h9 : (payA1 s).length ≤ s.now.accts.length + 1 := putA_len _ _; omega, so.warmA, so.warmS, so.refund, so.logs, so.temps, so.made, so.gone, so.start, so.ret, so.phase, so.status, so.applied, so.limit, so.txGas, so.left, so.price, so.total, so.origin, so.mad⟩, eC.mono hL0, (by simp only [size_spl, Array.size_setIfInBounds]; exact hs.size), _, _, _, _, _, _, _, _, _, _, _, _, _, _, _, _, _, _, _, _, _, _, _, _, rS, rOr, rMd, lv24, (hWA.mono hL0), (hWS.mono hL0), (hRf.mono hL0), (hTm.mono hL0), (hMd.mono hL0), (hGn.mono hL0), (hSr.mono hL0), (hRt.mono hL0), (hLm.mono hL0), (hTx.mono hL0), (hLf.mono hL0), (hPr.mono hL0), (hTt.mono hL0)⟩
                            refine p_eff (by exact rfl) (e_callV cal_70 (aC (et g0 rfl) aN) (yp_baseFee hF _ _ _ _ kS hsP)) (fun v27 w27 h27 => ?_)
                            obtain ⟨H27, g27, n27, q27⟩ := h27
                            have hlew27 := g27.le
                            replace nb2 := g27.nb nb2 k2.lt
                            replace nbS := g27.nb nbS kS.lt
                            replace n9 := n9.mono hlew27
                            replace n12 := n12.mono hlew27
                            replace n13 := n13.mono hlew27
                            replace n14 := n14.mono hlew27
                            replace n17 := n17.mono hlew27
                            replace n18 := n18.mono hlew27
                            replace p21 := p21.mono hlew27
                            replace hn22 := hn22.mono hlew27
                            replace hbb22 := hbb22.mono hlew27
                            replace hcd22 := hcd22.mono hlew27
                            replace n23 := n23.mono hlew27
                            replace lv24 := lv24.mono hlew27
                            replace hsP := hsP.mono hlew27
                            replace hL0 := hL0.trans hlew27
                            replace k2 := k2.up g27.up
                            replace kS := kS.up g27.up
                            replace kL := kL.up g27.up
                            replace U := U.tr g27.up
                            replace G := G.tr g27
                            replace hF := g27.fz
                            refine ⟨.inr (SU.tr g27.up), ?_⟩
                            replace SU := SU.tr g27.up
                            exact (by
                              refine p_eff (by exact rfl) (e_callV cal_45 (aC (et (gS rfl (gS rfl g0)) rfl) (aC (et g0 rfl) aN)) (yp_less hF (hPr.mono hL0) n27 (bd_sm (bd_W so.price) (by decide)) (bd_sm q27 (by decide)))) (fun v28 w28 h28 => ?_)
                              obtain ⟨H28, g28, n28⟩ := h28
                              have hlew28 := g28.le
                              replace nb2 := g28.nb nb2 k2.lt
                              replace nbS := g28.nb nbS kS.lt
                              replace n9 := n9.mono hlew28
                              replace n12 := n12.mono hlew28
                              replace n13 := n13.mono hlew28
                              replace n14 := n14.mono hlew28
                              replace n17 := n17.mono hlew28
                              replace n18 := n18.mono hlew28
                              replace p21 := p21.mono hlew28
                              replace hn22 := hn22.mono hlew28
                              replace hbb22 := hbb22.mono hlew28
                              replace hcd22 := hcd22.mono hlew28
                              replace n23 := n23.mono hlew28
                              replace lv24 := lv24.mono hlew28
                              replace hsP := hsP.mono hlew28
                              replace n27 := n27.mono hlew28
                              replace hL0 := hL0.trans hlew28
                              replace k2 := k2.up g28.up
                              replace kS := kS.up g28.up
                              replace kL := kL.up g28.up
                              replace U := U.tr g28.up
                              replace G := G.tr g28
                              replace hF := g28.fz
                              have q28 := bd_sub' n28 (bd_W so.price)
                              refine ⟨.inr (SU.tr g28.up), ?_⟩
                              replace SU := SU.tr g28.up
                              refine p_eff (by exact rfl) (e_callV cal_50 (aC (et (gS rfl (gS rfl (gS rfl (gS rfl (gS rfl (gS rfl (gS rfl g0))))))) rfl) (aC (et g0 rfl) aN)) (nat_mul hF n14 n28 (bd_sm q14 (by decide)) (bd_sm q28 (by decide)))) (fun v29 w29 h29 => ?_)
                              obtain ⟨H29, g29, n29⟩ := h29
                              have hlew29 := g29.le
                              replace nb2 := g29.nb nb2 k2.lt
                              replace nbS := g29.nb nbS kS.lt
                              replace n9 := n9.mono hlew29
                              replace n12 := n12.mono hlew29
                              replace n13 := n13.mono hlew29
                              replace n14 := n14.mono hlew29
                              replace n17 := n17.mono hlew29
                              replace n18 := n18.mono hlew29
                              replace p21 := p21.mono hlew29
                              replace hn22 := hn22.mono hlew29
                              replace hbb22 := hbb22.mono hlew29
                              replace hcd22 := hcd22.mono hlew29
                              replace n23 := n23.mono hlew29
                              replace lv24 := lv24.mono hlew29
                              replace hsP := hsP.mono hlew29
                              replace n27 := n27.mono hlew29
                              replace n28 := n28.mono hlew29
                              replace hL0 := hL0.trans hlew29
                              replace k2 := k2.up g29.up
                              replace kS := kS.up g29.up
                              replace kL := kL.up g29.up
                              replace U := U.tr g29.up
                              replace G := G.tr g29
                              replace hF := g29.fz
                              have q29 := bd_mul (c := 40) q14 q28 (by decide)
                              refine ⟨.inr (SU.tr g29.up), ?_⟩
                              replace SU := SU.tr g29.up
                              exact (by
                                refine p_step (by exact rfl) (y_assignV (et g0 rfl)) ?_
                                refine p_nil ?_
                                refine hK25 _ _ ?_
                                refine fg4 2 3 5 7 (gS rfl (gS rfl (gS rfl (gS rfl (gS rfl (gS rfl (gS rfl (gS rfl (gS rfl (gS rfl (gS rfl (gS rfl g0)))))))))))) (gS rfl (gS rfl (gS rfl (gS rfl (gS rfl (gS rfl (gS rfl (gS rfl (gS rfl (gS rfl (gS rfl g0))))))))))) (gS rfl (gS rfl (gS rfl (gS rfl (gS rfl (gS rfl (gS rfl (gS rfl (gS rfl (gS rfl g0)))))))))) g0 (fun g => ?_)
                                refine c_seq (fun K30 hK30 => ?_)
                                exact (by
                                  refine c_draw Up 16 [(0, true), (1, true), (2, true), (3, true), (4, true), (5, true), (6, true), (7, true), (8, true), (9, true), (11, true), (10, false), (12, false), (13, false), (14, true), (15, true), (16, false)] (by kernel_rfl) (fun w31 hu => ⟨Up.refl _, ?_⟩)
                                  replace G := G.tr (Go.ofUp hF hu)
                                  replace hF := hF.up hu
                                  replace k2 := k2.up hu
                                  replace kS := kS.up hu
                                  replace kL := kL.up hu
                                  replace U := U.tr hu
                                  have SU := Up.refl w31
                                  refine p_step (by exact rfl) (y_moveV (et (gS rfl (gS rfl g0)) rfl)) ?_
                                  refine p_step (by exact rfl) (y_moveV (et (gS rfl (gS rfl (gS rfl g0))) rfl)) ?_
                                  refine p_step (by exact rfl) (y_nil (et g0 rfl)) ?_
                                  refine p_step (by exact rfl) (y_fld fld_102_11 (et g0 rfl)) ?_
                                  refine p_step (by exact rfl) (y_load1 one_95 (et g0 rfl) (atS (kS.cell (rS 18 _ rfl)))) ?_
                                  refine p_step (by exact rfl) (y_moveV (et (gS rfl (gS rfl (gS rfl (gS rfl (gS rfl (gS rfl g0)))))) rfl)) ?_
                                  refine p_step (by exact rfl) (y_moveV (et (gS rfl (gS rfl (gS rfl (gS rfl (gS rfl (gS rfl (gS rfl (gS rfl g0)))))))) rfl)) ?_
                                  refine p_step (by exact rfl) (y_nil (et g0 rfl)) ?_
                                  refine p_step (by exact rfl) (y_fld fld_102_10 (et g0 rfl)) ?_
                                  refine p_step (by exact rfl) (y_load1 one_95 (et g0 rfl) (atS (kS.cell (rS 17 _ rfl)))) ?_
                                  refine p_step (by exact rfl) (y_moveV (et (gS rfl (gS rfl (gS rfl (gS rfl (gS rfl (gS rfl (gS rfl (gS rfl (gS rfl (gS rfl g0)))))))))) rfl)) ?_
                                  refine p_eff (by exact rfl) (e_callV cal_50 (aC (et (gS rfl (gS rfl (gS rfl (gS rfl (gS rfl g0))))) rfl) (aC (et (gS rfl g0) rfl) aN)) (nat_mul hF n14 (hPr.mono hL0) (bd_sm q14 (by decide)) (bd_sm (bd_W so.price) (by decide)))) (fun v32 w32 h32 => ?_)
                                  obtain ⟨H32, g32, n32⟩ := h32
                                  have hlew32 := g32.le
                                  replace nb2 := g32.nb nb2 k2.lt
                                  replace nbS := g32.nb nbS kS.lt
                                  replace n9 := n9.mono hlew32
                                  replace n12 := n12.mono hlew32
                                  replace n13 := n13.mono hlew32
                                  replace n14 := n14.mono hlew32
                                  replace n17 := n17.mono hlew32
                                  replace n18 := n18.mono hlew32
                                  replace p21 := p21.mono hlew32
                                  replace hn22 := hn22.mono hlew32
                                  replace hbb22 := hbb22.mono hlew32
                                  replace hcd22 := hcd22.mono hlew32
                                  replace n23 := n23.mono hlew32
                                  replace lv24 := lv24.mono hlew32
                                  replace hsP := hsP.mono hlew32
                                  replace n27 := n27.mono hlew32
                                  replace n28 := n28.mono hlew32
                                  replace n29 := n29.mono hlew32
                                  replace hL0 := hL0.trans hlew32
                                  replace k2 := k2.up g32.up
                                  replace kS := kS.up g32.up
                                  replace kL := kL.up g32.up
                                  replace U := U.tr g32.up
                                  replace G := G.tr g32
                                  replace hF := g32.fz
                                  have q32 := bd_mul (c := 40) q14 (bd_W so.price) (by decide)
                                  refine ⟨.inr (SU.tr g32.up), ?_⟩
                                  replace SU := SU.tr g32.up
                                  exact (by
                                    refine p_eff (by exact rfl) (e_callV cal_45 (aC (et g0 rfl) (aC (et (gS rfl g0) rfl) aN)) (yp_less hF n32 n29 (bd_sm q32 (by decide)) (bd_sm q29 (by decide)))) (fun v33 w33 h33 => ?_)
                                    obtain ⟨H33, g33, n33⟩ := h33
                                    have hlew33 := g33.le
                                    replace nb2 := g33.nb nb2 k2.lt
                                    replace nbS := g33.nb nbS kS.lt
                                    replace n9 := n9.mono hlew33
                                    replace n12 := n12.mono hlew33
                                    replace n13 := n13.mono hlew33
                                    replace n14 := n14.mono hlew33
                                    replace n17 := n17.mono hlew33
                                    replace n18 := n18.mono hlew33
                                    replace p21 := p21.mono hlew33
                                    replace hn22 := hn22.mono hlew33
                                    replace hbb22 := hbb22.mono hlew33
                                    replace hcd22 := hcd22.mono hlew33
                                    replace n23 := n23.mono hlew33
                                    replace lv24 := lv24.mono hlew33
                                    replace hsP := hsP.mono hlew33
                                    replace n27 := n27.mono hlew33
                                    replace n28 := n28.mono hlew33
                                    replace n29 := n29.mono hlew33
                                    replace n32 := n32.mono hlew33
                                    replace hL0 := hL0.trans hlew33
                                    replace k2 := k2.up g33.up
                                    replace kS := kS.up g33.up
                                    replace kL := kL.up g33.up
                                    replace U := U.tr g33.up
                                    replace G := G.tr g33
                                    replace hF := g33.fz
                                    have q33 := bd_sub' n33 q32
                                    refine ⟨.inr (SU.tr g33.up), ?_⟩
                                    replace SU := SU.tr g33.up
                                    exact (by
                                      refine p_eff (by exact rfl) (e_callV cal_45 (aC (et (gS rfl (gS rfl (gS rfl (gS rfl (gS rfl (gS rfl (gS rfl (gS rfl g0)))))))) rfl) (aC (et g0 rfl) aN)) (yp_less hF (hTt.mono hL0) n33 (bd_sm (bd_W so.total) (by decide)) (bd_sm q33 (by decide)))) (fun v34 w34 h34 => ?_)
                                      obtain ⟨H34, g34, n34⟩ := h34
                                      have hlew34 := g34.le
                                      replace nb2 := g34.nb nb2 k2.lt
                                      replace nbS := g34.nb nbS kS.lt
                                      replace n9 := n9.mono hlew34
                                      replace n12 := n12.mono hlew34
                                      replace n13 := n13.mono hlew34
                                      replace n14 := n14.mono hlew34
                                      replace n17 := n17.mono hlew34
                                      replace n18 := n18.mono hlew34
                                      replace p21 := p21.mono hlew34
                                      replace hn22 := hn22.mono hlew34
                                      replace hbb22 := hbb22.mono hlew34
                                      replace hcd22 := hcd22.mono hlew34
                                      replace n23 := n23.mono hlew34
                                      replace lv24 := lv24.mono hlew34
                                      replace hsP := hsP.mono hlew34
                                      replace n27 := n27.mono hlew34
                                      replace n28 := n28.mono hlew34
                                      replace n29 := n29.mono hlew34
                                      replace n32 := n32.mono hlew34
                                      replace n33 := n33.mono hlew34
                                      replace hL0 := hL0.trans hlew34
                                      replace k2 := k2.up g34.up
                                      replace kS := kS.up g34.up
                                      replace kL := kL.up g34.up
                                      replace U := U.tr g34.up
                                      replace G := G.tr g34
                                      replace hF := g34.fz
                                      have q34 := bd_sub' n34 (bd_W so.total)
                                      refine ⟨.inr (SU.tr g34.up), ?_⟩
                                      replace SU := SU.tr g34.up
                                      exact (by
                                        refine p_step (by exact rfl) (y_nil (et (gS rfl (gS rfl (gS rfl (gS rfl (gS rfl (gS rfl (gS rfl (gS rfl (gS rfl (gS rfl (gS rfl (gS rfl (gS rfl g0))))))))))))) rfl)) ?_
                                        refine p_step (by exact rfl) (y_fld fld_102_11 (et g0 rfl)) ?_
                                        obtain ⟨sa35, sn35, sc35, rfl⟩ := n34.sl
                                        have rl35 := RowIn.le rS (Nat.succ_pos _)
                                        simp only [List.length_cons, List.length_nil, Nat.zero_add, Nat.reduceAdd] at rl35
                                        refine p_effN (by exact rfl) (e_store sz_95 (et g0 rfl) (cellsV (et (gS rfl (gS rfl g0)) rfl) rfl) rfl (by first | exact one_bL _ | exact one_uL _ | (intro v hv; simp at hv; subst hv; rfl)) kS (by first | exact Nat.le_trans (by omega) rl35 | exact Nat.le_of_ble_eq_true rfl | (simp; done) | (simp; omega) | omega | (simp only [size_spl, Array.size_setIfInBounds, hs.size]; exact Nat.le_of_ble_eq_true rfl))) (fun v35 w35 h35 => ?_)
                                        obtain ⟨rfl, x35⟩ := h35
                                        replace k2 := k2.ch x35.ch (by omega)
                                        replace kL := kL.ch x35.ch (by intro b hb hm; have := dL b hb; omega)
                                        replace kS := x35.blk
                                        replace G := G.wr x35 (.inl (by first | rfl | (simp; done))) nbS
                                        replace hF := G.fz
                                        replace U := U.st x35 (.inl (by first | rfl | (simp; done)))
                                        replace eC := kS.eput eC (by omega)
                                        replace rS : RowIn _ _ [_, .slice wa s.now.warmA.length wc, .slice sa s.now.warmS.length sc, vr, .slice la s.now.logs.length lc, .slice ta s.now.temps.length tc, .slice ma s.now.made.length mc, .slice ga s.now.gone.length gc, .slice oa s.start.length oc, vf, .slice ra s.ret.length rc, .int .u8 (s.phase : Nat), .int .u8 (s.status : Nat), .int .u8 (s.applied : Nat), vlim, vtx, vleft, vpr, _] := kS.rput rS 18 rfl
                                        replace rOr := kS.rputo rOr (by first | (left; omega) | (right; simp only [List.length_cons, List.length_nil, length_bL, length_be]; omega))
                                        replace rMd := kS.rputo rMd (by first | (left; omega) | (right; simp only [List.length_cons, List.length_nil, length_bL, length_be]; omega))
                                        replace rE1 := kS.rputo rE1 (by first | (left; omega) | (right; simp only [List.length_cons, List.length_nil, length_bL, length_be]; omega))
                                        replace rE2 := kS.rputo rE2 (by first | (left; omega) | (right; simp only [List.length_cons, List.length_nil, length_bL, length_be]; omega))
                                        replace rE3 := kS.rputo rE3 (by first | (left; omega) | (right; simp only [List.length_cons, List.length_nil, length_bL, length_be]; omega))
                                        replace rE4 := kS.rputo rE4 (by first | (left; omega) | (right; simp only [List.length_cons, List.length_nil, length_bL, length_be]; omega))
                                        replace rE5 := kS.rputo rE5 (by first | (left; omega) | (right; simp only [List.length_cons, List.length_nil, length_bL, length_be]; omega))
                                        replace rE6 := kS.rputo rE6 (by first | (left; omega) | (right; simp only [List.length_cons, List.length_nil, length_bL, length_be]; omega))
                                        refine ⟨.inl rfl, ?_⟩
                                        refine p_nil ?_
                                        refine hK30 _ _ ?_
                                        refine fg4 2 3 5 7 (gS rfl (gS rfl (gS rfl (gS rfl (gS rfl (gS rfl (gS rfl (gS rfl (gS rfl (gS rfl (gS rfl (gS rfl (gS rfl (gS rfl (gS rfl (gS rfl (gS rfl (gS rfl (gS rfl g0))))))))))))))))))) (gS rfl (gS rfl (gS rfl (gS rfl (gS rfl (gS rfl (gS rfl (gS rfl (gS rfl (gS rfl (gS rfl (gS rfl (gS rfl (gS rfl (gS rfl (gS rfl (gS rfl (gS rfl g0)))))))))))))))))) (gS rfl (gS rfl (gS rfl (gS rfl (gS rfl (gS rfl (gS rfl (gS rfl (gS rfl (gS rfl (gS rfl (gS rfl (gS rfl (gS rfl (gS rfl (gS rfl (gS rfl g0))))))))))))))))) (gS rfl (gS rfl (gS rfl (gS rfl (gS rfl (gS rfl (gS rfl (gS rfl (gS rfl (gS rfl (gS rfl (gS rfl (gS rfl (gS rfl (gS rfl (gS rfl g0)))))))))))))))) (fun g => ?_)
                                        refine c_seq (fun K36 hK36 => ?_)
                                        exact (by
                                          refine c_draw Up 20 [(0, true), (1, true), (2, true), (3, true), (4, true), (5, true), (6, true), (7, true), (8, true), (9, true), (10, true), (11, true), (12, true), (13, true), (14, true), (15, true), (18, true), (16, false), (17, true), (19, false), (20, false)] (by kernel_rfl) (fun w37 hu => ⟨Up.refl _, ?_⟩)
                                          replace G := G.tr (Go.ofUp hF hu)
                                          replace hF := hF.up hu
                                          replace k2 := k2.up hu
                                          replace kS := kS.up hu
                                          replace kL := kL.up hu
                                          replace U := U.tr hu
                                          have SU := Up.refl w37
                                          refine p_step (by exact rfl) (y_moveV (et (gS rfl (gS rfl g0)) rfl)) ?_
                                          refine p_step (by exact rfl) (y_nil (et g0 rfl)) ?_
                                          refine p_step (by exact rfl) (y_fld fld_102_0 (et g0 rfl)) ?_
                                          refine p_step (by exact rfl) (y_moveV (et (gS rfl (gS rfl (gS rfl (gS rfl (gS rfl g0))))) rfl)) ?_
                                          refine p_step (by exact rfl) (y_nil (et g0 rfl)) ?_
                                          refine p_step (by exact rfl) (y_fld fld_102_14 (et g0 rfl)) ?_
                                          refine p_step (by exact rfl) (y_fld fld_31_0 (et g0 rfl)) ?_
                                          refine p_step (by exact rfl) (y_loadR agg_25 sz_25 (et g0 rfl) (by rw [length_bL, length_be]) (atSR (kS.row rE1))) ?_
                                          refine p_step (by exact rfl) (y_moveV (et (gS rfl (gS rfl (gS rfl (gS rfl (gS rfl (gS rfl (gS rfl (gS rfl (gS rfl (gS rfl g0)))))))))) rfl)) ?_
                                          refine p_step (by exact rfl) (y_nil (et g0 rfl)) ?_
                                          refine p_step (by exact rfl) (y_fld fld_102_0 (et g0 rfl)) ?_
                                          refine p_step (by exact rfl) (y_moveV (et (gS rfl (gS rfl (gS rfl (gS rfl (gS rfl (gS rfl (gS rfl (gS rfl (gS rfl (gS rfl (gS rfl (gS rfl (gS rfl g0))))))))))))) rfl)) ?_
                                          refine p_step (by exact rfl) (y_nil (et g0 rfl)) ?_
                                          refine p_step (by exact rfl) (y_fld fld_102_14 (et g0 rfl)) ?_
                                          refine p_step (by exact rfl) (y_fld fld_31_0 (et g0 rfl)) ?_
                                          refine p_step (by exact rfl) (y_loadR agg_25 sz_25 (et g0 rfl) (by rw [length_bL, length_be]) (atSR (kS.row rE1))) ?_
                                          refine p_step (by exact rfl) (y_moveV (et (gS rfl (gS rfl (gS rfl (gS rfl (gS rfl (gS rfl (gS rfl (gS rfl (gS rfl (gS rfl (gS rfl (gS rfl (gS rfl (gS rfl (gS rfl (gS rfl g0)))))))))))))))) rfl)) ?_
                                          refine p_eff (by exact rfl) (e_callV cal_43 (aC (et (gS rfl (gS rfl (gS rfl (gS rfl (gS rfl (gS rfl g0)))))) rfl) (aC (et (gS rfl g0) rfl) aN)) (yp_account _ _ _ _ _ _ _ _ _ hF kS (rS 0 _ rfl) lv24 eo.coinbase (by have h9 : (payA1 s).length ≤ s.now.accts.length + 1 := putA_len _ _; exact Nat.lt_of_le_of_lt h9 (by omega)))) (fun v38 w38 h38 => ?_)
                                          obtain ⟨c38, rfl, p38, u38⟩ := h38
                                          replace G := G.tr (Go.ofUp hF u38)
                                          replace hF := hF.up u38
                                          replace k2 := k2.up u38
                                          replace kS := kS.up u38
                                          replace kL := kL.up u38
                                          replace U := U.tr u38
                                          replace p38 : PA _ _ _ := ⟨p38⟩
                                          refine ⟨.inr (SU.tr u38), ?_⟩
                                          replace SU := SU.tr u38
                                          exact (by
                                            obtain ⟨vn39, vb39, vc39, vs39, hc39, hn39, hbb39, hcd39, hb139, hb239⟩ := acct_form p38.p
                                            rw [hc39]
                                            refine p_step (by exact rfl) (y_fldV (f := 2) Hvaa.underlying107 rfl rfl rfl one_95 (et g0 rfl) ((app20 (i := 1) rfl).trans rfl)) ?_
                                            refine p_eff (by exact rfl) (e_callV cal_34 (aC (et g0 rfl) (aC (et (gS rfl (gS rfl g0)) rfl) aN)) (nat_add hF hbb39 n29 (bd_sm (bd_W hb239) (by decide)) (bd_sm q29 (by decide)))) (fun v40 w40 h40 => ?_)
                                            obtain ⟨H40, g40, n40⟩ := h40
                                            have hlew40 := g40.le
                                            replace nb2 := g40.nb nb2 k2.lt
                                            replace nbS := g40.nb nbS kS.lt
                                            replace n9 := n9.mono hlew40
                                            replace n12 := n12.mono hlew40
                                            replace n13 := n13.mono hlew40
                                            replace n14 := n14.mono hlew40
                                            replace n17 := n17.mono hlew40
                                            replace n18 := n18.mono hlew40
                                            replace p21 := p21.mono hlew40
                                            replace hn22 := hn22.mono hlew40
                                            replace hbb22 := hbb22.mono hlew40
                                            replace hcd22 := hcd22.mono hlew40
                                            replace n23 := n23.mono hlew40
                                            replace lv24 := lv24.mono hlew40
                                            replace hsP := hsP.mono hlew40
                                            replace n27 := n27.mono hlew40
                                            replace n28 := n28.mono hlew40
                                            replace n29 := n29.mono hlew40
                                            replace n32 := n32.mono hlew40
                                            replace n33 := n33.mono hlew40
                                            replace n34 := n34.mono hlew40
                                            replace p38 := p38.mono hlew40
                                            replace hn39 := hn39.mono hlew40
                                            replace hbb39 := hbb39.mono hlew40
                                            replace hcd39 := hcd39.mono hlew40
                                            replace hL0 := hL0.trans hlew40
                                            replace k2 := k2.up g40.up
                                            replace kS := kS.up g40.up
                                            replace kL := kL.up g40.up
                                            replace U := U.tr g40.up
                                            replace G := G.tr g40
                                            replace hF := g40.fz
                                            have q40 := bd_add (c := 41) (bd_W hb239) q29 (by decide)
                                            refine ⟨.inr (SU.tr g40.up), ?_⟩
                                            replace SU := SU.tr g40.up
                                            exact (by
                                              refine p_eff (by exact rfl) (e_callV cal_49 (aC (et (gS rfl (gS rfl (gS rfl (gS rfl (gS rfl (gS rfl (gS rfl (gS rfl (gS rfl (gS rfl (gS rfl (gS rfl (gS rfl (gS rfl (gS rfl (gS rfl (gS rfl g0))))))))))))))))) rfl) (aC (et (gS rfl (gS rfl (gS rfl (gS rfl (gS rfl (gS rfl (gS rfl (gS rfl (gS rfl (gS rfl (gS rfl (gS rfl g0)))))))))))) rfl) (aC (et g0 rfl) aN))) (yp_setBalance _ _ _ _ _ _ _ _ _ hF kS nbS (rS 0 _ rfl) lv24 eo.coinbase (by have h9 : (payA1 s).length ≤ s.now.accts.length + 1 := putA_len _ _; exact Nat.lt_of_le_of_lt h9 (by omega)) n40 hfh.b2)) (fun v41 w41 h41 => ?_)
                                              obtain ⟨rfl, z41, H41, g41, lv41, kx41⟩ := h41
                                              have hlew41 := g41.le
                                              replace nb2 := g41.nb nb2 k2.lt
                                              replace nbS := g41.nb nbS kS.lt
                                              replace n9 := n9.mono hlew41
                                              replace n12 := n12.mono hlew41
                                              replace n13 := n13.mono hlew41
                                              replace n14 := n14.mono hlew41
                                              replace n17 := n17.mono hlew41
                                              replace n18 := n18.mono hlew41
                                              replace p21 := p21.mono hlew41
                                              replace hn22 := hn22.mono hlew41
                                              replace hbb22 := hbb22.mono hlew41
                                              replace hcd22 := hcd22.mono hlew41
                                              replace n23 := n23.mono hlew41
                                              replace lv24 := lv24.mono hlew41
                                              replace hsP := hsP.mono hlew41
                                              replace n27 := n27.mono hlew41
                                              replace n28 := n28.mono hlew41
                                              replace n29 := n29.mono hlew41
                                              replace n32 := n32.mono hlew41
                                              replace n33 := n33.mono hlew41
                                              replace n34 := n34.mono hlew41
                                              replace p38 := p38.mono hlew41
                                              replace hn39 := hn39.mono hlew41
                                              replace hbb39 := hbb39.mono hlew41
                                              replace hcd39 := hcd39.mono hlew41
                                              replace n40 := n40.mono hlew41
                                              replace hL0 := hL0.trans hlew41
                                              replace k2 := k2.ch g41.ch (by first | omega | (intro b hb; have := dL b hb; omega))
                                              replace kL := kL.ch g41.ch (by intro b hb hm; have := dL b hb; omega)
                                              replace kS := kx41
                                              replace U := U.cc g41.ch (by intro b hb; first | omega | exact .inl hb | exact .inr (hb ▸ U))
                                              replace G := G.trans g41 (by intro b hb; first | omega | exact .inl hb | (simp at hb ⊢; omega))
                                              replace hF := g41.fz
                                              obtain ⟨xa41, xc41, rfl, hxl41, hxc41⟩ := lv41.val
                                              replace eC := kS.eset eC (by omega)
                                              replace rS : RowIn _ _ [_, .slice wa s.now.warmA.length wc, .slice sa s.now.warmS.length sc, vr, .slice la s.now.logs.length lc, .slice ta s.now.temps.length tc, .slice ma s.now.made.length mc, .slice ga s.now.gone.length gc, .slice oa s.start.length oc, vf, .slice ra s.ret.length rc, .int .u8 (s.phase : Nat), .int .u8 (s.status : Nat), .int .u8 (s.applied : Nat), vlim, vtx, vleft, vpr, _] := kS.rset rS 0 rfl
                                              replace rOr := kS.rseto rOr (by first | (left; omega) | (right; simp only [List.length_cons, List.length_nil, length_bL, length_be]; omega))
                                              replace rMd := kS.rseto rMd (by first | (left; omega) | (right; simp only [List.length_cons, List.length_nil, length_bL, length_be]; omega))
                                              replace rE1 := kS.rseto rE1 (by first | (left; omega) | (right; simp only [List.length_cons, List.length_nil, length_bL, length_be]; omega))
                                              replace rE2 := kS.rseto rE2 (by first | (left; omega) | (right; simp only [List.length_cons, List.length_nil, length_bL, length_be]; omega))
                                              replace rE3 := kS.rseto rE3 (by first | (left; omega) | (right; simp only [List.length_cons, List.length_nil, length_bL, length_be]; omega))
                                              replace rE4 := kS.rseto rE4 (by first | (left; omega) | (right; simp only [List.length_cons, List.length_nil, length_bL, length_be]; omega))
                                              replace rE5 := kS.rseto rE5 (by first | (left; omega) | (right; simp only [List.length_cons, List.length_nil, length_bL, length_be]; omega))
                                              replace rE6 := kS.rseto rE6 (by first | (left; omega) | (right; simp only [List.length_cons, List.length_nil, length_bL, length_be]; omega))
                                              refine ⟨.inl rfl, ?_⟩
                                              refine p_nil ?_
                                              refine hK36 _ _ ?_
                                              refine fg3 2 3 5 (gS rfl (gS rfl (gS rfl (gS rfl (gS rfl (gS rfl (gS rfl (gS rfl (gS rfl (gS rfl (gS rfl (gS rfl (gS rfl (gS rfl (gS rfl (gS rfl (gS rfl (gS rfl (gS rfl (gS rfl (gS rfl (gS rfl (gS rfl (gS rfl g0)))))))))))))))))))))))) (gS rfl (gS rfl (gS rfl (gS rfl (gS rfl (gS rfl (gS rfl (gS rfl (gS rfl (gS rfl (gS rfl (gS rfl (gS rfl (gS rfl (gS rfl (gS rfl (gS rfl (gS rfl (gS rfl (gS rfl (gS rfl (gS rfl (gS rfl g0))))))))))))))))))))))) (gS rfl (gS rfl (gS rfl (gS rfl (gS rfl (gS rfl (gS rfl (gS rfl (gS rfl (gS rfl (gS rfl (gS rfl (gS rfl (gS rfl (gS rfl (gS rfl (gS rfl (gS rfl (gS rfl (gS rfl (gS rfl (gS rfl g0)))))))))))))))))))))) (fun g => ?_)
                                              refine c_seq (fun K42 hK42 => ?_)
                                              exact (by
                                                refine fgv3 2 3 5 (gS rfl (gS rfl g0)) (gS rfl g0) g0 (fun g z2 z3 z5 e2 e3 e5 => ?_)
                                                refine c_drawJ (fun s_ w_ => ∃ (g : Nat → Value) (b44 : Nat) (qa lq : Option Addr) (qc lr : Nat) (Hj43 : Store), s_ = (upd (upd (upd (upd g 2 z2) 3 z3) 5 z5) 8 (.pointer (some ⟨b44, 0, none⟩))) ∧ Go No w41 H41 w_ Hj43 ∧ w41.heap.size ≤ b44 ∧ Blk w_ b44 ((rcC 0 s.status 0 (.slice qa s.ret.length qc) (.slice lq s.now.logs.length lr) 0).toArray) ∧ ¬ Hj43.has b44 ∧ (BV Hj43 (.slice qa s.ret.length qc) s.ret) ∧ (LV P_log 22 Hj43 (.slice lq s.now.logs.length lr) s.now.logs)) Up 17 (.pure 0 (.pure 1 (.pure 2 (.pure 3 (.pure 4 (.pure 5 (.pure 6 (.pure 7 (.pure 9 (.pure 10 (.pure 11 (.pure 12 (.pure 13 (.two 8 (.two 14 (.pure 15 (.eff 16 (.eff 17 .fin))) 16 (.eff 14 (.pure 15 (.eff 17 .fin)))) 16 (.eff 8 (.eff 14 (.pure 15 (.eff 17 .fin)))))))))))))))))) (by kernel_rfl) (fun w45 hu => ⟨Up.refl _, ?_⟩) ?_
                                                · skip
                                                  subst e2 e3 e5
                                                  replace G := G.tr (Go.ofUp hF hu)
                                                  replace hF := hF.up hu
                                                  replace k2 := k2.up hu
                                                  replace kS := kS.up hu
                                                  replace kL := kL.up hu
                                                  replace U := U.tr hu
                                                  have SU := Up.refl w45
                                                  have V43 : Go No w41 H41 w45 H41 := ⟨hu, hF, Le.refl _, fun _ h => .inl h⟩
                                                  refine t_step (by exact rfl) (y_moveV (et (gS rfl g0) rfl)) ?_
                                                  refine t_step (by exact rfl) (y_nil (et g0 rfl)) ?_
                                                  refine t_step (by exact rfl) (y_fld fld_102_5 (et g0 rfl)) ?_
                                                  refine t_step (by exact rfl) (y_load1 one_5 (et g0 rfl) (atS (kS.cell (rS 12 _ rfl)))) ?_
                                                  refine t_step (by exact rfl) (y_moveV (et (gS rfl (gS rfl (gS rfl (gS rfl (gS rfl g0))))) rfl)) ?_
                                                  refine t_step (by exact rfl) (y_nil (et g0 rfl)) ?_
                                                  refine t_step (by exact rfl) (y_fld fld_102_3 (et g0 rfl)) ?_
                                                  refine t_step (by exact rfl) (y_load1 one_38 (et g0 rfl) (atS (kS.cell (rS 10 _ rfl)))) ?_
                                                  refine t_step (by exact rfl) (y_moveV (et (gS rfl (gS rfl (gS rfl (gS rfl (gS rfl (gS rfl (gS rfl (gS rfl (gS rfl g0))))))))) rfl)) ?_
                                                  refine t_step (by exact rfl) (y_nil (et g0 rfl)) ?_
                                                  refine t_step (by exact rfl) (y_fld fld_102_0 (et g0 rfl)) ?_
                                                  refine t_step (by exact rfl) (y_fld fld_98_4 (et g0 rfl)) ?_
                                                  refine t_step (by exact rfl) (y_load1 one_42 (et g0 rfl) (atS (kS.cell (rS 4 _ rfl)))) ?_
                                                  refine t_two ?_ ?_
                                                  · skip
                                                    refine t_eff (by exact rfl) (e_callV cal_26 (aC (et (gS rfl (gS rfl (gS rfl (gS rfl (gS rfl g0))))) rfl) aN) (yp_bytesOf _ _ _ s.ret _ _ hF ((hRt.mono hL0).wv hF) (Nat.le_refl _) (by omega))) (fun v46 w46 h46 => ?_)
                                                    obtain ⟨H46, g46, bo9⟩ := h46
                                                    have hlew46 := g46.le
                                                    replace nb2 := g46.nb nb2 k2.lt
                                                    replace nbS := g46.nb nbS kS.lt
                                                    replace n9 := n9.mono hlew46
                                                    replace n12 := n12.mono hlew46
                                                    replace n13 := n13.mono hlew46
                                                    replace n14 := n14.mono hlew46
                                                    replace n17 := n17.mono hlew46
                                                    replace n18 := n18.mono hlew46
                                                    replace p21 := p21.mono hlew46
                                                    replace hn22 := hn22.mono hlew46
                                                    replace hbb22 := hbb22.mono hlew46
                                                    replace hcd22 := hcd22.mono hlew46
                                                    replace n23 := n23.mono hlew46
                                                    replace lv24 := lv24.mono hlew46
                                                    replace hsP := hsP.mono hlew46
                                                    replace n27 := n27.mono hlew46
                                                    replace n28 := n28.mono hlew46
                                                    replace n29 := n29.mono hlew46
                                                    replace n32 := n32.mono hlew46
                                                    replace n33 := n33.mono hlew46
                                                    replace n34 := n34.mono hlew46
                                                    replace p38 := p38.mono hlew46
                                                    replace hn39 := hn39.mono hlew46
                                                    replace hbb39 := hbb39.mono hlew46
                                                    replace hcd39 := hcd39.mono hlew46
                                                    replace n40 := n40.mono hlew46
                                                    replace lv41 := lv41.mono hlew46
                                                    replace hL0 := hL0.trans hlew46
                                                    replace k2 := k2.up g46.up
                                                    replace kS := kS.up g46.up
                                                    replace kL := kL.up g46.up
                                                    replace U := U.tr g46.up
                                                    replace G := G.tr g46
                                                    replace V43 := V43.tr g46
                                                    replace hF := g46.fz
                                                    obtain ⟨oa9, oc9, rfl⟩ := bo9.sl
                                                    refine ⟨.inr (SU.tr g46.up), ?_⟩
                                                    replace SU := SU.tr g46.up
                                                    refine t_two ?_ ?_
                                                    · skip
                                                      refine t_eff (by exact rfl) (e_callV cal_71 (aC (et (gS rfl g0) rfl) aN) (yp_logsOf hF (a := la) (c := lc) ((kL.mono hL0).rv hF) (Nat.le_refl _) (by omega) hfh.lg)) (fun v47 w47 h47 => ?_)
                                                      obtain ⟨H47, g47, bl9, _, _, _⟩ := h47
                                                      have hlew47 := g47.le
                                                      replace nb2 := g47.nb nb2 k2.lt
                                                      replace nbS := g47.nb nbS kS.lt
                                                      replace n9 := n9.mono hlew47
                                                      replace n12 := n12.mono hlew47
                                                      replace n13 := n13.mono hlew47
                                                      replace n14 := n14.mono hlew47
                                                      replace n17 := n17.mono hlew47
                                                      replace n18 := n18.mono hlew47
                                                      replace p21 := p21.mono hlew47
                                                      replace hn22 := hn22.mono hlew47
                                                      replace hbb22 := hbb22.mono hlew47
                                                      replace hcd22 := hcd22.mono hlew47
                                                      replace n23 := n23.mono hlew47
                                                      replace lv24 := lv24.mono hlew47
                                                      replace hsP := hsP.mono hlew47
                                                      replace n27 := n27.mono hlew47
                                                      replace n28 := n28.mono hlew47
                                                      replace n29 := n29.mono hlew47
                                                      replace n32 := n32.mono hlew47
                                                      replace n33 := n33.mono hlew47
                                                      replace n34 := n34.mono hlew47
                                                      replace p38 := p38.mono hlew47
                                                      replace hn39 := hn39.mono hlew47
                                                      replace hbb39 := hbb39.mono hlew47
                                                      replace hcd39 := hcd39.mono hlew47
                                                      replace n40 := n40.mono hlew47
                                                      replace lv41 := lv41.mono hlew47
                                                      replace bo9 := bo9.mono hlew47
                                                      replace hL0 := hL0.trans hlew47
                                                      replace k2 := k2.up g47.up
                                                      replace kS := kS.up g47.up
                                                      replace kL := kL.up g47.up
                                                      replace U := U.tr g47.up
                                                      replace G := G.tr g47
                                                      replace V43 := V43.tr g47
                                                      replace hF := g47.fz
                                                      obtain ⟨lq9, lr9, rfl, _, _⟩ := bl9.val
                                                      refine ⟨.inr (SU.tr g47.up), ?_⟩
                                                      replace SU := SU.tr g47.up
                                                      refine t_step (by exact rfl) (y_bld (bC (et (gS rfl (gS rfl (gS rfl (gS rfl (gS rfl (gS rfl (gS rfl (gS rfl (gS rfl (gS rfl (gS rfl g0))))))))))) rfl) (bC (et (gS rfl g0) rfl) (bC (et g0 rfl) bN))) (bld44_2 s.status _ _ rfl rfl)) ?_
                                                      refine t_one ?_
                                                      refine t_eff (by exact rfl) (e_alloc zr_44) (fun v48 w48 h48 => ?_)
                                                      obtain ⟨b48, rfl, n48⟩ := h48
                                                      have d2_48 : b2 < b48 := Nat.lt_of_lt_of_le k2.lt n48.fresh
                                                      have f48 : w.heap.size ≤ b48 := Nat.le_trans U.size n48.fresh
                                                      have nb48 := hF.nb n48.fresh
                                                      have fS48 := Nat.le_trans SU.size n48.fresh
                                                      have fV43_48 := Nat.le_trans V43.ch.size n48.fresh
                                                      replace G := G.tr (Go.ofUp hF n48.up)
                                                      replace V43 := V43.tr (Go.ofUp hF n48.up)
                                                      replace hF := hF.up n48.up
                                                      replace k2 := k2.up n48.up
                                                      replace kS := kS.up n48.up
                                                      replace kL := kL.up n48.up
                                                      replace U := U.tr n48.up
                                                      have k48 := n48.blk
                                                      refine ⟨.inr (SU.tr n48.up), ?_⟩
                                                      replace SU := SU.tr n48.up
                                                      refine t_one ?_
                                                      refine t_effN (by exact rfl) (e_store sz_44 (et g0 rfl) (cellsV (et (gS rfl g0) rfl) rfl) rcC_len (by exact rc_one rfl rfl) k48 (by exact Nat.le_of_ble_eq_true rfl)) (fun v49 w49 h49 => ?_)
                                                      obtain ⟨rfl, x49⟩ := h49
                                                      replace k2 := k2.ch x49.ch (by omega)
                                                      replace kS := kS.ch x49.ch (by first | omega | (omega))
                                                      replace kL := kL.ch x49.ch (by first | omega | (intro b hb hm; have := dL b hb; omega))
                                                      replace k48 := x49.blk.full (by rw [rcC_len]; rfl)
                                                      replace G := G.wr x49 (by first | exact .inr f48 | omega | (simp; omega)) nb48
                                                      replace V43 := V43.wr x49 (by first | exact .inr f48 | omega | (simp; omega)) nb48
                                                      replace hF := G.fz
                                                      replace U := U.st x49 (.inr f48)
                                                      refine ⟨.inl rfl, ?_⟩
                                                      refine tl4 2 3 5 8 (gS rfl (gS rfl (gS rfl (gS rfl (gS rfl (gS rfl (gS rfl (gS rfl (gS rfl (gS rfl (gS rfl (gS rfl (gS rfl (gS rfl (gS rfl (gS rfl (gS rfl (gS rfl (gS rfl g0))))))))))))))))))) (gS rfl (gS rfl (gS rfl (gS rfl (gS rfl (gS rfl (gS rfl (gS rfl (gS rfl (gS rfl (gS rfl (gS rfl (gS rfl (gS rfl (gS rfl (gS rfl (gS rfl (gS rfl g0)))))))))))))))))) (gS rfl (gS rfl (gS rfl (gS rfl (gS rfl (gS rfl (gS rfl (gS rfl (gS rfl (gS rfl (gS rfl (gS rfl (gS rfl (gS rfl (gS rfl (gS rfl (gS rfl g0))))))))))))))))) g0 (fun g => ?_)
                                                      exact ⟨g, _, _, _, _, _, _, rfl, V43, Nat.le_trans hu.size fS48, k48, nb48, bo9, bl9⟩
                                                    · skip
                                                      refine t_eff (by exact rfl) (e_alloc zr_44) (fun v50 w50 h50 => ?_)
                                                      obtain ⟨b50, rfl, n50⟩ := h50
                                                      have d2_50 : b2 < b50 := Nat.lt_of_lt_of_le k2.lt n50.fresh
                                                      have f50 : w.heap.size ≤ b50 := Nat.le_trans U.size n50.fresh
                                                      have nb50 := hF.nb n50.fresh
                                                      have fS50 := Nat.le_trans SU.size n50.fresh
                                                      have fV43_50 := Nat.le_trans V43.ch.size n50.fresh
                                                      replace G := G.tr (Go.ofUp hF n50.up)
                                                      replace V43 := V43.tr (Go.ofUp hF n50.up)
                                                      replace hF := hF.up n50.up
                                                      replace k2 := k2.up n50.up
                                                      replace kS := kS.up n50.up
                                                      replace kL := kL.up n50.up
                                                      replace U := U.tr n50.up
                                                      have k50 := n50.blk
                                                      refine ⟨.inr (SU.tr n50.up), ?_⟩
                                                      replace SU := SU.tr n50.up
                                                      refine t_one ?_
                                                      refine t_eff (by exact rfl) (e_callV cal_71 (aC (et (gS rfl (gS rfl g0)) rfl) aN) (yp_logsOf hF (a := la) (c := lc) ((kL.mono hL0).rv hF) (Nat.le_refl _) (by omega) hfh.lg)) (fun v51 w51 h51 => ?_)
                                                      obtain ⟨H51, g51, bl9, _, _, _⟩ := h51
                                                      have hlew51 := g51.le
                                                      replace nb2 := g51.nb nb2 k2.lt
                                                      replace nb50 := g51.nb nb50 k50.lt
                                                      replace nbS := g51.nb nbS kS.lt
                                                      replace n9 := n9.mono hlew51
                                                      replace n12 := n12.mono hlew51
                                                      replace n13 := n13.mono hlew51
                                                      replace n14 := n14.mono hlew51
                                                      replace n17 := n17.mono hlew51
                                                      replace n18 := n18.mono hlew51
                                                      replace p21 := p21.mono hlew51
                                                      replace hn22 := hn22.mono hlew51
                                                      replace hbb22 := hbb22.mono hlew51
                                                      replace hcd22 := hcd22.mono hlew51
                                                      replace n23 := n23.mono hlew51
                                                      replace lv24 := lv24.mono hlew51
                                                      replace hsP := hsP.mono hlew51
                                                      replace n27 := n27.mono hlew51
                                                      replace n28 := n28.mono hlew51
                                                      replace n29 := n29.mono hlew51
                                                      replace n32 := n32.mono hlew51
                                                      replace n33 := n33.mono hlew51
                                                      replace n34 := n34.mono hlew51
                                                      replace p38 := p38.mono hlew51
                                                      replace hn39 := hn39.mono hlew51
                                                      replace hbb39 := hbb39.mono hlew51
                                                      replace hcd39 := hcd39.mono hlew51
                                                      replace n40 := n40.mono hlew51
                                                      replace lv41 := lv41.mono hlew51
                                                      replace bo9 := bo9.mono hlew51
                                                      replace hL0 := hL0.trans hlew51
                                                      replace k2 := k2.up g51.up
                                                      replace k50 := k50.up g51.up
                                                      replace kS := kS.up g51.up
                                                      replace kL := kL.up g51.up
                                                      replace U := U.tr g51.up
                                                      replace G := G.tr g51
                                                      replace V43 := V43.tr g51
                                                      replace hF := g51.fz
                                                      obtain ⟨lq9, lr9, rfl, _, _⟩ := bl9.val
                                                      refine ⟨.inr (SU.tr g51.up), ?_⟩
                                                      replace SU := SU.tr g51.up
                                                      refine t_step (by exact rfl) (y_bld (bC (et (gS rfl (gS rfl (gS rfl (gS rfl (gS rfl (gS rfl (gS rfl (gS rfl (gS rfl (gS rfl (gS rfl (gS rfl g0)))))))))))) rfl) (bC (et (gS rfl (gS rfl g0)) rfl) (bC (et g0 rfl) bN))) (bld44_2 s.status _ _ rfl rfl)) ?_
                                                      refine t_one ?_
                                                      refine t_effN (by exact rfl) (e_store sz_44 (et (gS rfl (gS rfl g0)) rfl) (cellsV (et g0 rfl) rfl) rcC_len (by exact rc_one rfl rfl) k50 (by exact Nat.le_of_ble_eq_true rfl)) (fun v52 w52 h52 => ?_)
                                                      obtain ⟨rfl, x52⟩ := h52
                                                      replace k2 := k2.ch x52.ch (by omega)
                                                      replace kS := kS.ch x52.ch (by first | omega | (omega))
                                                      replace kL := kL.ch x52.ch (by first | omega | (intro b hb hm; have := dL b hb; omega))
                                                      replace k50 := x52.blk.full (by rw [rcC_len]; rfl)
                                                      replace G := G.wr x52 (by first | exact .inr f50 | omega | (simp; omega)) nb50
                                                      replace V43 := V43.wr x52 (by first | exact .inr f50 | omega | (simp; omega)) nb50
                                                      replace hF := G.fz
                                                      replace U := U.st x52 (.inr f50)
                                                      refine ⟨.inl rfl, ?_⟩
                                                      refine tl4 2 3 5 8 (gS rfl (gS rfl (gS rfl (gS rfl (gS rfl (gS rfl (gS rfl (gS rfl (gS rfl (gS rfl (gS rfl (gS rfl (gS rfl (gS rfl (gS rfl (gS rfl (gS rfl (gS rfl (gS rfl g0))))))))))))))))))) (gS rfl (gS rfl (gS rfl (gS rfl (gS rfl (gS rfl (gS rfl (gS rfl (gS rfl (gS rfl (gS rfl (gS rfl (gS rfl (gS rfl (gS rfl (gS rfl (gS rfl (gS rfl g0)))))))))))))))))) (gS rfl (gS rfl (gS rfl (gS rfl (gS rfl (gS rfl (gS rfl (gS rfl (gS rfl (gS rfl (gS rfl (gS rfl (gS rfl (gS rfl (gS rfl (gS rfl (gS rfl g0))))))))))))))))) (gS rfl (gS rfl g0)) (fun g => ?_)
                                                      exact ⟨g, _, _, _, _, _, _, rfl, V43, Nat.le_trans hu.size fS50, k50, nb50, bo9, bl9⟩
                                                  · skip
                                                    refine t_eff (by exact rfl) (e_alloc zr_44) (fun v53 w53 h53 => ?_)
                                                    obtain ⟨b53, rfl, n53⟩ := h53
                                                    have d2_53 : b2 < b53 := Nat.lt_of_lt_of_le k2.lt n53.fresh
                                                    have f53 : w.heap.size ≤ b53 := Nat.le_trans U.size n53.fresh
                                                    have nb53 := hF.nb n53.fresh
                                                    have fS53 := Nat.le_trans SU.size n53.fresh
                                                    have fV43_53 := Nat.le_trans V43.ch.size n53.fresh
                                                    replace G := G.tr (Go.ofUp hF n53.up)
                                                    replace V43 := V43.tr (Go.ofUp hF n53.up)
                                                    replace hF := hF.up n53.up
                                                    replace k2 := k2.up n53.up
                                                    replace kS := kS.up n53.up
                                                    replace kL := kL.up n53.up
                                                    replace U := U.tr n53.up
                                                    have k53 := n53.blk
                                                    refine ⟨.inr (SU.tr n53.up), ?_⟩
                                                    replace SU := SU.tr n53.up
                                                    refine t_one ?_
                                                    refine t_eff (by exact rfl) (e_callV cal_26 (aC (et (gS rfl (gS rfl (gS rfl (gS rfl (gS rfl (gS rfl g0)))))) rfl) aN) (yp_bytesOf _ _ _ s.ret _ _ hF ((hRt.mono hL0).wv hF) (Nat.le_refl _) (by omega))) (fun v54 w54 h54 => ?_)
                                                    obtain ⟨H54, g54, bo9⟩ := h54
                                                    have hlew54 := g54.le
                                                    replace nb2 := g54.nb nb2 k2.lt
                                                    replace nb53 := g54.nb nb53 k53.lt
                                                    replace nbS := g54.nb nbS kS.lt
                                                    replace n9 := n9.mono hlew54
                                                    replace n12 := n12.mono hlew54
                                                    replace n13 := n13.mono hlew54
                                                    replace n14 := n14.mono hlew54
                                                    replace n17 := n17.mono hlew54
                                                    replace n18 := n18.mono hlew54
                                                    replace p21 := p21.mono hlew54
                                                    replace hn22 := hn22.mono hlew54
                                                    replace hbb22 := hbb22.mono hlew54
                                                    replace hcd22 := hcd22.mono hlew54
                                                    replace n23 := n23.mono hlew54
                                                    replace lv24 := lv24.mono hlew54
                                                    replace hsP := hsP.mono hlew54
                                                    replace n27 := n27.mono hlew54
                                                    replace n28 := n28.mono hlew54
                                                    replace n29 := n29.mono hlew54
                                                    replace n32 := n32.mono hlew54
                                                    replace n33 := n33.mono hlew54
                                                    replace n34 := n34.mono hlew54
                                                    replace p38 := p38.mono hlew54
                                                    replace hn39 := hn39.mono hlew54
                                                    replace hbb39 := hbb39.mono hlew54
                                                    replace hcd39 := hcd39.mono hlew54
                                                    replace n40 := n40.mono hlew54
                                                    replace lv41 := lv41.mono hlew54
                                                    replace hL0 := hL0.trans hlew54
                                                    replace k2 := k2.up g54.up
                                                    replace k53 := k53.up g54.up
                                                    replace kS := kS.up g54.up
                                                    replace kL := kL.up g54.up
                                                    replace U := U.tr g54.up
                                                    replace G := G.tr g54
                                                    replace V43 := V43.tr g54
                                                    replace hF := g54.fz
                                                    obtain ⟨oa9, oc9, rfl⟩ := bo9.sl
                                                    refine ⟨.inr (SU.tr g54.up), ?_⟩
                                                    replace SU := SU.tr g54.up
                                                    refine t_one ?_
                                                    refine t_eff (by exact rfl) (e_callV cal_71 (aC (et (gS rfl (gS rfl g0)) rfl) aN) (yp_logsOf hF (a := la) (c := lc) ((kL.mono hL0).rv hF) (Nat.le_refl _) (by omega) hfh.lg)) (fun v55 w55 h55 => ?_)
                                                    obtain ⟨H55, g55, bl9, _, _, _⟩ := h55
                                                    have hlew55 := g55.le
                                                    replace nb2 := g55.nb nb2 k2.lt
                                                    replace nb53 := g55.nb nb53 k53.lt
                                                    replace nbS := g55.nb nbS kS.lt
                                                    replace n9 := n9.mono hlew55
                                                    replace n12 := n12.mono hlew55
                                                    replace n13 := n13.mono hlew55
                                                    replace n14 := n14.mono hlew55
                                                    replace n17 := n17.mono hlew55
                                                    replace n18 := n18.mono hlew55
                                                    replace p21 := p21.mono hlew55
                                                    replace hn22 := hn22.mono hlew55
                                                    replace hbb22 := hbb22.mono hlew55
                                                    replace hcd22 := hcd22.mono hlew55
                                                    replace n23 := n23.mono hlew55
                                                    replace lv24 := lv24.mono hlew55
                                                    replace hsP := hsP.mono hlew55
                                                    replace n27 := n27.mono hlew55
                                                    replace n28 := n28.mono hlew55
                                                    replace n29 := n29.mono hlew55
                                                    replace n32 := n32.mono hlew55
                                                    replace n33 := n33.mono hlew55
                                                    replace n34 := n34.mono hlew55
                                                    replace p38 := p38.mono hlew55
                                                    replace hn39 := hn39.mono hlew55
                                                    replace hbb39 := hbb39.mono hlew55
                                                    replace hcd39 := hcd39.mono hlew55
                                                    replace n40 := n40.mono hlew55
                                                    replace lv41 := lv41.mono hlew55
                                                    replace bo9 := bo9.mono hlew55
                                                    replace hL0 := hL0.trans hlew55
                                                    replace k2 := k2.up g55.up
                                                    replace k53 := k53.up g55.up
                                                    replace kS := kS.up g55.up
                                                    replace kL := kL.up g55.up
                                                    replace U := U.tr g55.up
                                                    replace G := G.tr g55
                                                    replace V43 := V43.tr g55
                                                    replace hF := g55.fz
                                                    obtain ⟨lq9, lr9, rfl, _, _⟩ := bl9.val
                                                    refine ⟨.inr (SU.tr g55.up), ?_⟩
                                                    replace SU := SU.tr g55.up
                                                    refine t_step (by exact rfl) (y_bld (bC (et (gS rfl (gS rfl (gS rfl (gS rfl (gS rfl (gS rfl (gS rfl (gS rfl (gS rfl (gS rfl (gS rfl (gS rfl g0)))))))))))) rfl) (bC (et (gS rfl g0) rfl) (bC (et g0 rfl) bN))) (bld44_2 s.status _ _ rfl rfl)) ?_
                                                    refine t_one ?_
                                                    refine t_effN (by exact rfl) (e_store sz_44 (et (gS rfl (gS rfl (gS rfl g0))) rfl) (cellsV (et g0 rfl) rfl) rcC_len (by exact rc_one rfl rfl) k53 (by exact Nat.le_of_ble_eq_true rfl)) (fun v56 w56 h56 => ?_)
                                                    obtain ⟨rfl, x56⟩ := h56
                                                    replace k2 := k2.ch x56.ch (by omega)
                                                    replace kS := kS.ch x56.ch (by first | omega | (omega))
                                                    replace kL := kL.ch x56.ch (by first | omega | (intro b hb hm; have := dL b hb; omega))
                                                    replace k53 := x56.blk.full (by rw [rcC_len]; rfl)
                                                    replace G := G.wr x56 (by first | exact .inr f53 | omega | (simp; omega)) nb53
                                                    replace V43 := V43.wr x56 (by first | exact .inr f53 | omega | (simp; omega)) nb53
                                                    replace hF := G.fz
                                                    replace U := U.st x56 (.inr f53)
                                                    refine ⟨.inl rfl, ?_⟩
                                                    refine tl4 2 3 5 8 (gS rfl (gS rfl (gS rfl (gS rfl (gS rfl (gS rfl (gS rfl (gS rfl (gS rfl (gS rfl (gS rfl (gS rfl (gS rfl (gS rfl (gS rfl (gS rfl (gS rfl (gS rfl (gS rfl g0))))))))))))))))))) (gS rfl (gS rfl (gS rfl (gS rfl (gS rfl (gS rfl (gS rfl (gS rfl (gS rfl (gS rfl (gS rfl (gS rfl (gS rfl (gS rfl (gS rfl (gS rfl (gS rfl (gS rfl g0)))))))))))))))))) (gS rfl (gS rfl (gS rfl (gS rfl (gS rfl (gS rfl (gS rfl (gS rfl (gS rfl (gS rfl (gS rfl (gS rfl (gS rfl (gS rfl (gS rfl (gS rfl (gS rfl g0))))))))))))))))) (gS rfl (gS rfl (gS rfl g0))) (fun g => ?_)
                                                    exact ⟨g, _, _, _, _, _, _, rfl, V43, Nat.le_trans hu.size fS53, k53, nb53, bo9, bl9⟩
                                                intro s_ w57 hJ
                                                obtain ⟨g, b44, qa, lq, qc, lr, Hj43, rfl, V43, fn44, kn44, nb44, hbo, hbl⟩ := hJ
                                                subst e2 e3 e5
                                                have d2_44 : b2 < b44 := Nat.lt_of_lt_of_le k2.lt fn44
                                                have f44 : w.heap.size ≤ b44 := Nat.le_trans U.size fn44
                                                have hlew57 := V43.le
                                                replace nb2 := V43.nb nb2 k2.lt
                                                replace nbS := V43.nb nbS kS.lt
                                                replace n9 := n9.mono hlew57
                                                replace n12 := n12.mono hlew57
                                                replace n13 := n13.mono hlew57
                                                replace n14 := n14.mono hlew57
                                                replace n17 := n17.mono hlew57
                                                replace n18 := n18.mono hlew57
                                                replace p21 := p21.mono hlew57
                                                replace hn22 := hn22.mono hlew57
                                                replace hbb22 := hbb22.mono hlew57
                                                replace hcd22 := hcd22.mono hlew57
                                                replace n23 := n23.mono hlew57
                                                replace lv24 := lv24.mono hlew57
                                                replace hsP := hsP.mono hlew57
                                                replace n27 := n27.mono hlew57
                                                replace n28 := n28.mono hlew57
                                                replace n29 := n29.mono hlew57
                                                replace n32 := n32.mono hlew57
                                                replace n33 := n33.mono hlew57
                                                replace n34 := n34.mono hlew57
                                                replace p38 := p38.mono hlew57
                                                replace hn39 := hn39.mono hlew57
                                                replace hbb39 := hbb39.mono hlew57
                                                replace hcd39 := hcd39.mono hlew57
                                                replace n40 := n40.mono hlew57
                                                replace lv41 := lv41.mono hlew57
                                                replace hL0 := hL0.trans hlew57
                                                replace k2 := k2.up V43.up
                                                replace kS := kS.up V43.up
                                                replace kL := kL.up V43.up
                                                replace U := U.tr V43.up
                                                replace G := G.tr V43
                                                replace hF := V43.fz
                                                have k44 := kn44
                                                refine hK42 _ _ ?_
                                                refine c_seq (fun K58 hK58 => ?_)
                                                exact (by
                                                  refine c_region ?_
                                                  refine l_step (y_moveV (et (gS rfl g0) rfl)) ?_
                                                  refine l_eff (e_callV cal_24 (aC (et g0 rfl) aN) (yp_small hF n14 (bd_sm q14 (by decide)))) (fun v59 w59 h59 => ?_)
                                                  obtain ⟨rfl, u59⟩ := h59
                                                  replace G := G.tr (Go.ofUp hF u59)
                                                  replace hF := hF.up u59
                                                  replace k2 := k2.up u59
                                                  replace k44 := k44.up u59
                                                  replace kS := kS.up u59
                                                  replace kL := kL.up u59
                                                  replace U := U.tr u59
                                                  refine l_step (y_fld fld_44_2 (et (gS rfl (gS rfl g0)) rfl)) ?_
                                                  refine l_effN (e_store sz_26 (et g0 rfl) (cellsV (et (gS rfl g0) rfl) rfl) rfl (by first | exact one_bL _ | exact one_uL _ | (intro v hv; simp at hv; subst hv; rfl)) k44 (by (rw [List.size_toArray, rcC_len]; decide))) (fun v60 w60 h60 => ?_)
                                                  obtain ⟨rfl, x60⟩ := h60
                                                  replace k2 := k2.ch x60.ch (by omega)
                                                  replace kS := kS.ch x60.ch (by first | omega | (omega))
                                                  replace kL := kL.ch x60.ch (by first | omega | (intro b hb hm; have := dL b hb; omega))
                                                  replace k44 := x60.blk
                                                  replace G := G.wr x60 (by first | exact .inr f44 | omega | (simp; omega)) nb44
                                                  replace hF := G.fz
                                                  replace U := U.st x60 (.inr f44)
                                                  replace k44 : Blk w60 b44 (rcC 0 s.status (useN s) (.slice qa s.ret.length qc) (.slice lq s.now.logs.length lr) 0).toArray := by
                                                    have h9 : lo64 (useN s) = useN s := lo_small (Nat.lt_of_le_of_lt (use_le s) so.limit)
                                                    have h8 := k44
                                                    rw [show (0 + 2 : Nat) = 2 from rfl] at h8
                                                    rw [← rc_used (u := useN s) (used := 0), ← h9]
                                                    exact h8
                                                  refine l_nil ?_
                                                  refine hK58 _ _ ?_
                                                  refine fg3 2 3 8 (gS rfl (gS rfl (gS rfl (gS rfl (gS rfl (gS rfl g0)))))) (gS rfl (gS rfl (gS rfl (gS rfl (gS rfl g0))))) (gS rfl (gS rfl (gS rfl g0))) (fun g => ?_)
                                                  refine c_seq (fun K61 hK61 => ?_)
                                                  refine c_seq (fun K62 hK62 => ?_)
                                                  exact (by
                                                    refine c_region ?_
                                                    refine l_step (y_moveV (et (gS rfl g0) rfl)) ?_
                                                    refine l_step (y_nil (et g0 rfl)) ?_
                                                    refine l_step (y_fld fld_102_5 (et g0 rfl)) ?_
                                                    refine l_step (y_load1 one_5 (et g0 rfl) (at1 (kS.cell (rS 12 _ rfl)))) ?_
                                                    refine l_step (y_eql (et g0 rfl) rfl) ?_
                                                    refine l_nil ?_
                                                    refine hK62 _ _ ?_
                                                    refine fg4 2 3 8 137 (gS rfl (gS rfl (gS rfl (gS rfl (gS rfl (gS rfl (gS rfl g0))))))) (gS rfl (gS rfl (gS rfl (gS rfl (gS rfl (gS rfl g0)))))) (gS rfl (gS rfl (gS rfl (gS rfl (gS rfl g0))))) g0 (fun g => ?_)
                                                    refine c_cond (et g0 rfl) (fun cB2 => ?_) (fun cB2 => ?_)
                                                    · skip
                                                      
                                                      have hz0 : s.status = 0 := by have := of_decide_eq_true cB2; omega
                                                      exact (by
                                                        refine c_region ?_
                                                        refine l_step (y_moveV (et (gS rfl (gS rfl g0)) rfl)) ?_
                                                        refine l_step (y_nil (et g0 rfl)) ?_
                                                        refine l_step (y_fld fld_102_13 (et g0 rfl)) ?_
                                                        refine l_step (y_loadR agg_25 sz_25 (et g0 rfl) (by rw [length_bL, length_be]) (at1R (kS.row rMd))) ?_
                                                        refine l_step (y_fld fld_44_5 (et (gS rfl (gS rfl (gS rfl (gS rfl (gS rfl g0))))) rfl)) ?_
                                                        refine l_effN (e_store sz_25 (et g0 rfl) (cellsV (et (gS rfl g0) rfl) rfl) (by rw [length_bL, length_be]) (by exact one_bL _) k44 (by (rw [List.size_toArray, rcC_len]; decide))) (fun v64 w64 h64 => ?_)
                                                        obtain ⟨rfl, x64⟩ := h64
                                                        replace k2 := k2.ch x64.ch (by omega)
                                                        replace kS := kS.ch x64.ch (by first | omega | (omega))
                                                        replace kL := kL.ch x64.ch (by first | omega | (intro b hb hm; have := dL b hb; omega))
                                                        replace k44 := x64.blk
                                                        replace G := G.wr x64 (by first | exact .inr f44 | omega | (simp; omega)) nb44
                                                        replace hF := G.fz
                                                        replace U := U.st x64 (.inr f44)
                                                        rw [rc_made] at k44
                                                        refine l_nil ?_
                                                        refine hK61 _ _ ?_
                                                        refine fg3 2 3 8 (gS rfl (gS rfl (gS rfl (gS rfl (gS rfl (gS rfl (gS rfl (gS rfl g0)))))))) (gS rfl (gS rfl (gS rfl (gS rfl (gS rfl (gS rfl (gS rfl g0))))))) (gS rfl (gS rfl (gS rfl (gS rfl (gS rfl (gS rfl g0)))))) (fun g => ?_)
                                                        refine c_seq (fun K65 hK65 => ?_)
                                                        exact (by
                                                          refine c_region ?_
                                                          refine l_step (y_moveV (et (gS rfl g0) rfl)) ?_
                                                          refine l_step (y_nil (et g0 rfl)) ?_
                                                          refine l_step (y_fld fld_102_0 (et g0 rfl)) ?_
                                                          refine l_eff (e_callV cal_72 (aC (et g0 rfl) aN) (yp_goes hF _ _ _ _ _ _ _ _ kS nbS (rS 0 _ rfl) lv41 (rS 7 _ rfl) (hGn.mono hL0) (by have h2 : (payA2 s).length ≤ (payA1 s).length + 1 := putA_len _ _; have h3 : (payA1 s).length ≤ s.now.accts.length + 1 := putA_len _ _; show (payA2 s).length + s.now.gone.length < _; omega))) (fun v66 w66 h66 => ?_)
                                                          obtain ⟨rfl, z66, H66, g66, lv66, kx66⟩ := h66
                                                          have hlew66 := g66.le
                                                          replace nb2 := g66.nb nb2 k2.lt
                                                          replace nb44 := g66.nb nb44 k44.lt
                                                          replace nbS := g66.nb nbS kS.lt
                                                          replace n9 := n9.mono hlew66
                                                          replace n12 := n12.mono hlew66
                                                          replace n13 := n13.mono hlew66
                                                          replace n14 := n14.mono hlew66
                                                          replace n17 := n17.mono hlew66
                                                          replace n18 := n18.mono hlew66
                                                          replace p21 := p21.mono hlew66
                                                          replace hn22 := hn22.mono hlew66
                                                          replace hbb22 := hbb22.mono hlew66
                                                          replace hcd22 := hcd22.mono hlew66
                                                          replace n23 := n23.mono hlew66
                                                          replace lv24 := lv24.mono hlew66
                                                          replace hsP := hsP.mono hlew66
                                                          replace n27 := n27.mono hlew66
                                                          replace n28 := n28.mono hlew66
                                                          replace n29 := n29.mono hlew66
                                                          replace n32 := n32.mono hlew66
                                                          replace n33 := n33.mono hlew66
                                                          replace n34 := n34.mono hlew66
                                                          replace p38 := p38.mono hlew66
                                                          replace hn39 := hn39.mono hlew66
                                                          replace hbb39 := hbb39.mono hlew66
                                                          replace hcd39 := hcd39.mono hlew66
                                                          replace n40 := n40.mono hlew66
                                                          replace lv41 := lv41.mono hlew66
                                                          replace hbo := hbo.mono hlew66
                                                          replace hbl := hbl.mono hlew66
                                                          replace hL0 := hL0.trans hlew66
                                                          replace k2 := k2.ch g66.ch (by first | omega | (intro b hb; have := dL b hb; omega))
                                                          replace k44 := k44.ch g66.ch (by first | omega | (intro b hb; have := dL b hb; omega))
                                                          replace kL := kL.ch g66.ch (by intro b hb hm; have := dL b hb; omega)
                                                          replace kS := kx66
                                                          replace U := U.cc g66.ch (by intro b hb; first | omega | exact .inl hb | exact .inr (hb ▸ U))
                                                          replace G := G.trans g66 (by intro b hb; first | omega | exact .inl hb | (simp at hb ⊢; omega))
                                                          replace hF := g66.fz
                                                          obtain ⟨xa66, xc66, rfl, hxl66, hxc66⟩ := lv66.val
                                                          replace eC := kS.eset eC (by omega)
                                                          replace rS : RowIn _ _ [_, .slice wa s.now.warmA.length wc, .slice sa s.now.warmS.length sc, vr, .slice la s.now.logs.length lc, .slice ta s.now.temps.length tc, .slice ma s.now.made.length mc, .slice ga s.now.gone.length gc, .slice oa s.start.length oc, vf, .slice ra s.ret.length rc, .int .u8 (s.phase : Nat), .int .u8 (s.status : Nat), .int .u8 (s.applied : Nat), vlim, vtx, vleft, vpr, _] := kS.rset rS 0 rfl
                                                          replace rOr := kS.rseto rOr (by first | (left; omega) | (right; simp only [List.length_cons, List.length_nil, length_bL, length_be]; omega))
                                                          replace rMd := kS.rseto rMd (by first | (left; omega) | (right; simp only [List.length_cons, List.length_nil, length_bL, length_be]; omega))
                                                          replace rE1 := kS.rseto rE1 (by first | (left; omega) | (right; simp only [List.length_cons, List.length_nil, length_bL, length_be]; omega))
                                                          replace rE2 := kS.rseto rE2 (by first | (left; omega) | (right; simp only [List.length_cons, List.length_nil, length_bL, length_be]; omega))
                                                          replace rE3 := kS.rseto rE3 (by first | (left; omega) | (right; simp only [List.length_cons, List.length_nil, length_bL, length_be]; omega))
                                                          replace rE4 := kS.rseto rE4 (by first | (left; omega) | (right; simp only [List.length_cons, List.length_nil, length_bL, length_be]; omega))
                                                          replace rE5 := kS.rseto rE5 (by first | (left; omega) | (right; simp only [List.length_cons, List.length_nil, length_bL, length_be]; omega))
                                                          replace rE6 := kS.rseto rE6 (by first | (left; omega) | (right; simp only [List.length_cons, List.length_nil, length_bL, length_be]; omega))
                                                          refine l_nil ?_
                                                          refine hK65 _ _ ?_
                                                          refine fg3 2 3 8 (gS rfl (gS rfl (gS rfl (gS rfl (gS rfl (gS rfl g0)))))) (gS rfl (gS rfl (gS rfl (gS rfl (gS rfl g0))))) (gS rfl (gS rfl (gS rfl (gS rfl g0)))) (fun g => ?_)
                                                          refine c_seq (fun K67 hK67 => ?_)
                                                          exact (by
                                                            refine c_region ?_
                                                            refine l_step (y_moveV (et (gS rfl g0) rfl)) ?_
                                                            refine l_step (y_nil (et g0 rfl)) ?_
                                                            obtain ⟨r9, e9, hlen9, hone9, hE9⟩ := st_all2 rS (by simp only [List.set_cons_zero, List.length_cons, List.length_nil]) (by intro v hv; simp only [List.set_cons_zero, List.mem_cons, List.not_mem_nil, or_false] at hv; rcases hv with rfl | rfl | rfl | rfl | rfl | rfl | rfl | rfl | rfl | rfl | rfl | rfl | rfl | rfl | rfl | rfl | rfl | rfl | rfl <;> first | rfl | exact hRf.one1 | exact hvf | exact hLm.one1 | exact hTx.one1 | exact hLf.one1 | exact hPr.one1 | exact n34.one1) rfl rOr rMd rE1 rE2 rE3 rE4 rE5 rE6 (by simp only [size_spl, Array.size_setIfInBounds]; exact hs.size)
                                                            have hc0 := rS 0 _ rfl
                                                            have hc13 := rS 13 _ rfl
                                                            have hc18 := rS 18 _ rfl
                                                            rw [e9] at kS hc0 hc13 hc18
                                                            refine l_step (y_loadB agg_102 sz_102 (et g0 rfl) (by rw [List.size_toArray]; exact hlen9) (at1B kS)) ?_
                                                            refine l_eff (e_alloc zr_102) (fun v68 w68 h68 => ?_)
                                                            obtain ⟨b68, rfl, n68⟩ := h68
                                                            have d2_68 : b2 < b68 := Nat.lt_of_lt_of_le k2.lt n68.fresh
                                                            have d44_68 : b44 < b68 := Nat.lt_of_lt_of_le k44.lt n68.fresh
                                                            have f68 : w.heap.size ≤ b68 := Nat.le_trans U.size n68.fresh
                                                            have nb68 := hF.nb n68.fresh
                                                            replace G := G.tr (Go.ofUp hF n68.up)
                                                            replace hF := hF.up n68.up
                                                            replace k2 := k2.up n68.up
                                                            replace k44 := k44.up n68.up
                                                            replace kS := kS.up n68.up
                                                            replace kL := kL.up n68.up
                                                            replace U := U.tr n68.up
                                                            have k68 := n68.blk
                                                            obtain ⟨zs68, hz68, k68⟩ : ∃ cs : Array Value, cs.size = 179 ∧ Blk w68 b68 cs := ⟨_, rfl, k68⟩
                                                            refine l_effN (e_store sz_102 (et g0 rfl) (cellsV (et (gS rfl g0) rfl) rfl) hlen9 (by exact hone9) k68 (by (rw [hz68]; exact Nat.le_refl _))) (fun v69 w69 h69 => ?_)
                                                            obtain ⟨rfl, x69⟩ := h69
                                                            replace k2 := k2.ch x69.ch (by omega)
                                                            replace k44 := k44.ch x69.ch (by omega)
                                                            replace kS := kS.ch x69.ch (by first | omega | (omega))
                                                            replace kL := kL.ch x69.ch (by first | omega | (intro b hb hm; have := dL b hb; omega))
                                                            replace k68 := x69.blk.full (by rw [hlen9, hz68])
                                                            replace G := G.wr x69 (by first | exact .inr f68 | omega | (simp; omega)) nb68
                                                            replace hF := G.fz
                                                            replace U := U.st x69 (.inr f68)
                                                            refine l_nil ?_
                                                            refine hK67 _ _ ?_
                                                            refine fg4 2 3 8 9 (gS rfl (gS rfl (gS rfl (gS rfl (gS rfl (gS rfl g0)))))) (gS rfl (gS rfl (gS rfl (gS rfl (gS rfl g0))))) (gS rfl (gS rfl (gS rfl (gS rfl g0)))) g0 (fun g => ?_)
                                                            refine c_seq (fun K70 hK70 => ?_)
                                                            exact (by
                                                              refine c_region ?_
                                                              refine l_step (y_moveV (et (gS rfl (gS rfl g0)) rfl)) ?_
                                                              refine l_step (y_fld fld_102_0 (et (gS rfl g0) rfl)) ?_
                                                              refine l_step (y_fld fld_98_0 (et g0 rfl)) ?_
                                                              refine l_step (y_load1 one_92 (et g0 rfl) (at1 (k68.cell hc0))) ?_
                                                              refine l_step (y_bld (bC (et g0 rfl) bN) (bld_world rfl)) ?_
                                                              refine l_step (y_fld fld_102_6 (et (gS rfl (gS rfl (gS rfl (gS rfl (gS rfl g0))))) rfl)) ?_
                                                              refine l_step (y_load1 one_5 (et g0 rfl) (at1 (k68.cell hc13))) ?_
                                                              refine l_step (y_fld fld_102_11 (et (gS rfl (gS rfl (gS rfl (gS rfl (gS rfl (gS rfl (gS rfl g0))))))) rfl)) ?_
                                                              refine l_step (y_load1 one_95 (et g0 rfl) (at1 (k68.cell hc18))) ?_
                                                              refine l_step (y_fld fld_102_14 (et (gS rfl (gS rfl (gS rfl (gS rfl (gS rfl (gS rfl (gS rfl (gS rfl (gS rfl g0))))))))) rfl)) ?_
                                                              refine l_step (y_loadR agg_31 sz_31 (et g0 rfl) (envC_len _ _) (at1R (k68.row hE9))) ?_
                                                              refine l_step (y_bld (bC (et (gS rfl (gS rfl (gS rfl (gS rfl (gS rfl (gS rfl g0)))))) rfl) (bC (et (gS rfl (gS rfl (gS rfl (gS rfl g0)))) rfl) (bC (et (gS rfl (gS rfl g0)) rfl) (bC (et g0 rfl) bN)))) (bld_rest n34.one1 (envC_len _ _))) ?_
                                                              refine l_step (y_nil (et (gS rfl (gS rfl (gS rfl (gS rfl (gS rfl (gS rfl (gS rfl (gS rfl (gS rfl (gS rfl (gS rfl g0))))))))))) rfl)) ?_
                                                              refine l_effN (e_store sz_102 (et g0 rfl) (cellsV (et (gS rfl g0) rfl) rfl) (stC_len _ _ _ s.env (.slice eha s.env.hashes.length ehc)) (by exact stC_one (e := s.env) (vh := (.slice eha s.env.hashes.length ehc)) rfl n34.one1 rfl) kS (by (rw [List.size_toArray, hlen9]; exact Nat.le_refl _))) (fun v71 w71 h71 => ?_)
                                                              obtain ⟨rfl, x71⟩ := h71
                                                              replace k2 := k2.ch x71.ch (by omega)
                                                              replace k44 := k44.ch x71.ch (by omega)
                                                              replace k68 := k68.ch x71.ch (by omega)
                                                              replace kL := kL.ch x71.ch (by intro b hb hm; have := dL b hb; omega)
                                                              replace kS := x71.blk
                                                              replace G := G.wr x71 (.inl (by first | rfl | (simp; done))) nbS
                                                              replace hF := G.fz
                                                              replace U := U.st x71 (.inl (by first | rfl | (simp; done)))
                                                              have h9k := kS
                                                              replace kS : Blk w71 bs (stC (.slice xa66 (goesA (payA2 s) s.now.gone).length xc66) (.slice sa35 sn35 sc35) s.applied s.env (.slice eha s.env.hashes.length ehc)).toArray := by
                                                                rw [← spl_full9 (cs := r9.toArray) (l := (stC (.slice xa66 (goesA (payA2 s) s.now.gone).length xc66) (.slice sa35 sn35 sc35) s.applied s.env (.slice eha s.env.hashes.length ehc))) (by rw [List.size_toArray, hlen9]; exact stC_len _ _ _ _ _)]
                                                                exact h9k
                                                              refine l_nil ?_
                                                              refine hK70 _ _ ?_
                                                              refine fg2 2 8 (gS rfl (gS rfl (gS rfl (gS rfl (gS rfl (gS rfl (gS rfl (gS rfl (gS rfl (gS rfl (gS rfl (gS rfl (gS rfl (gS rfl (gS rfl (gS rfl g0)))))))))))))))) (gS rfl (gS rfl (gS rfl (gS rfl (gS rfl (gS rfl (gS rfl (gS rfl (gS rfl (gS rfl (gS rfl (gS rfl (gS rfl (gS rfl g0)))))))))))))) (fun g => ?_)
                                                              refine c_seq (fun K72 hK72 => ?_)
                                                              exact (by
                                                                refine c_region ?_
                                                                refine l_step (y_loadB agg_44 sz_44 (et g0 rfl) (by rw [List.size_toArray, rcC_len]) (at1B k44)) ?_
                                                                refine l_effN (e_store sz_44 (et (gS rfl (gS rfl g0)) rfl) (cellsV (et g0 rfl) rfl) rcC_len (by exact rc_one rfl rfl) k2 (by (rw [hz2]; exact Nat.le_refl _))) (fun v73 w73 h73 => ?_)
                                                                obtain ⟨rfl, x73⟩ := h73
                                                                replace k44 := k44.ch x73.ch (by omega)
                                                                replace k68 := k68.ch x73.ch (by omega)
                                                                replace kS := kS.ch x73.ch (by first | omega | (omega))
                                                                replace kL := kL.ch x73.ch (by first | omega | (intro b hb hm; have := dL b hb; omega))
                                                                replace k2 := x73.blk.full (by rw [rcC_len, hz2])
                                                                replace G := G.wr x73 (by first | exact .inr f2 | omega | (simp; omega)) nb2
                                                                replace hF := G.fz
                                                                replace U := U.st x73 (.inr f2)
                                                                refine l_nil ?_
                                                                refine hK72 _ _ ?_
                                                                refine fg1 2 (gS rfl (gS rfl g0)) (fun g => ?_)
                                                                refine c_ret ?_
                                                                repeat with_reducible refine then_ret ?_
                                                                refine ret1 rfl (res_blk agg_44 sz_44 (et g0 rfl) (by rw [List.size_toArray, rcC_len]) k2) ?_
                                                                exact ⟨_, _, qa, qc, lq, lr, by rw [if_pos hz0], hbo, hbl, G, kS, SC.rest (fin_rest s) rfl lv66 n34 rfl (hHs.mono hL0) eo (fin_len hfh.accts hfh.gone) so.applied (Nat.lt_of_le_of_lt (Nat.sub_le _ _) so.total), rfl⟩)))))
                                                    · skip
                                                      
                                                      have hz0 : ¬ s.status = 0 := by have := of_decide_eq_false cB2; omega
                                                      refine c_skip ?_
                                                      refine hK61 _ _ ?_
                                                      refine fg3 2 3 8 (gS rfl (gS rfl (gS rfl g0))) (gS rfl (gS rfl g0)) (gS rfl g0) (fun g => ?_)
                                                      refine c_seq (fun K74 hK74 => ?_)
                                                      exact (by
                                                        refine c_region ?_
                                                        refine l_step (y_moveV (et (gS rfl g0) rfl)) ?_
                                                        refine l_step (y_nil (et g0 rfl)) ?_
                                                        refine l_step (y_fld fld_102_0 (et g0 rfl)) ?_
                                                        refine l_eff (e_callV cal_72 (aC (et g0 rfl) aN) (yp_goes hF _ _ _ _ _ _ _ _ kS nbS (rS 0 _ rfl) lv41 (rS 7 _ rfl) (hGn.mono hL0) (by have h2 : (payA2 s).length ≤ (payA1 s).length + 1 := putA_len _ _; have h3 : (payA1 s).length ≤ s.now.accts.length + 1 := putA_len _ _; show (payA2 s).length + s.now.gone.length < _; omega))) (fun v75 w75 h75 => ?_)
                                                        obtain ⟨rfl, z75, H75, g75, lv75, kx75⟩ := h75
                                                        have hlew75 := g75.le
                                                        replace nb2 := g75.nb nb2 k2.lt
                                                        replace nb44 := g75.nb nb44 k44.lt
                                                        replace nbS := g75.nb nbS kS.lt
                                                        replace n9 := n9.mono hlew75
                                                        replace n12 := n12.mono hlew75
                                                        replace n13 := n13.mono hlew75
                                                        replace n14 := n14.mono hlew75
                                                        replace n17 := n17.mono hlew75
                                                        replace n18 := n18.mono hlew75
                                                        replace p21 := p21.mono hlew75
                                                        replace hn22 := hn22.mono hlew75
                                                        replace hbb22 := hbb22.mono hlew75
                                                        replace hcd22 := hcd22.mono hlew75
                                                        replace n23 := n23.mono hlew75
                                                        replace lv24 := lv24.mono hlew75
                                                        replace hsP := hsP.mono hlew75
                                                        replace n27 := n27.mono hlew75
                                                        replace n28 := n28.mono hlew75
                                                        replace n29 := n29.mono hlew75
                                                        replace n32 := n32.mono hlew75
                                                        replace n33 := n33.mono hlew75
                                                        replace n34 := n34.mono hlew75
                                                        replace p38 := p38.mono hlew75
                                                        replace hn39 := hn39.mono hlew75
                                                        replace hbb39 := hbb39.mono hlew75
                                                        replace hcd39 := hcd39.mono hlew75
                                                        replace n40 := n40.mono hlew75
                                                        replace lv41 := lv41.mono hlew75
                                                        replace hbo := hbo.mono hlew75
                                                        replace hbl := hbl.mono hlew75
                                                        replace hL0 := hL0.trans hlew75
                                                        replace k2 := k2.ch g75.ch (by first | omega | (intro b hb; have := dL b hb; omega))
                                                        replace k44 := k44.ch g75.ch (by first | omega | (intro b hb; have := dL b hb; omega))
                                                        replace kL := kL.ch g75.ch (by intro b hb hm; have := dL b hb; omega)
                                                        replace kS := kx75
                                                        replace U := U.cc g75.ch (by intro b hb; first | omega | exact .inl hb | exact .inr (hb ▸ U))
                                                        replace G := G.trans g75 (by intro b hb; first | omega | exact .inl hb | (simp at hb ⊢; omega))
                                                        replace hF := g75.fz
                                                        obtain ⟨xa75, xc75, rfl, hxl75, hxc75⟩ := lv75.val
                                                        replace eC := kS.eset eC (by omega)
                                                        replace rS : RowIn _ _ [_, .slice wa s.now.warmA.length wc, .slice sa s.now.warmS.length sc, vr, .slice la s.now.logs.length lc, .slice ta s.now.temps.length tc, .slice ma s.now.made.length mc, .slice ga s.now.gone.length gc, .slice oa s.start.length oc, vf, .slice ra s.ret.length rc, .int .u8 (s.phase : Nat), .int .u8 (s.status : Nat), .int .u8 (s.applied : Nat), vlim, vtx, vleft, vpr, _] := kS.rset rS 0 rfl
                                                        replace rOr := kS.rseto rOr (by first | (left; omega) | (right; simp only [List.length_cons, List.length_nil, length_bL, length_be]; omega))
                                                        replace rMd := kS.rseto rMd (by first | (left; omega) | (right; simp only [List.length_cons, List.length_nil, length_bL, length_be]; omega))
                                                        replace rE1 := kS.rseto rE1 (by first | (left; omega) | (right; simp only [List.length_cons, List.length_nil, length_bL, length_be]; omega))
                                                        replace rE2 := kS.rseto rE2 (by first | (left; omega) | (right; simp only [List.length_cons, List.length_nil, length_bL, length_be]; omega))
                                                        replace rE3 := kS.rseto rE3 (by first | (left; omega) | (right; simp only [List.length_cons, List.length_nil, length_bL, length_be]; omega))
                                                        replace rE4 := kS.rseto rE4 (by first | (left; omega) | (right; simp only [List.length_cons, List.length_nil, length_bL, length_be]; omega))
                                                        replace rE5 := kS.rseto rE5 (by first | (left; omega) | (right; simp only [List.length_cons, List.length_nil, length_bL, length_be]; omega))
                                                        replace rE6 := kS.rseto rE6 (by first | (left; omega) | (right; simp only [List.length_cons, List.length_nil, length_bL, length_be]; omega))
                                                        refine l_nil ?_
                                                        refine hK74 _ _ ?_
                                                        refine fg3 2 3 8 (gS rfl (gS rfl (gS rfl (gS rfl (gS rfl (gS rfl g0)))))) (gS rfl (gS rfl (gS rfl (gS rfl (gS rfl g0))))) (gS rfl (gS rfl (gS rfl (gS rfl g0)))) (fun g => ?_)
                                                        refine c_seq (fun K76 hK76 => ?_)
                                                        exact (by
                                                          refine c_region ?_
                                                          refine l_step (y_moveV (et (gS rfl g0) rfl)) ?_
                                                          refine l_step (y_nil (et g0 rfl)) ?_
                                                          obtain ⟨r9, e9, hlen9, hone9, hE9⟩ := st_all2 rS (by simp only [List.set_cons_zero, List.length_cons, List.length_nil]) (by intro v hv; simp only [List.set_cons_zero, List.mem_cons, List.not_mem_nil, or_false] at hv; rcases hv with rfl | rfl | rfl | rfl | rfl | rfl | rfl | rfl | rfl | rfl | rfl | rfl | rfl | rfl | rfl | rfl | rfl | rfl | rfl <;> first | rfl | exact hRf.one1 | exact hvf | exact hLm.one1 | exact hTx.one1 | exact hLf.one1 | exact hPr.one1 | exact n34.one1) rfl rOr rMd rE1 rE2 rE3 rE4 rE5 rE6 (by simp only [size_spl, Array.size_setIfInBounds]; exact hs.size)
                                                          have hc0 := rS 0 _ rfl
                                                          have hc13 := rS 13 _ rfl
                                                          have hc18 := rS 18 _ rfl
                                                          rw [e9] at kS hc0 hc13 hc18
                                                          refine l_step (y_loadB agg_102 sz_102 (et g0 rfl) (by rw [List.size_toArray]; exact hlen9) (at1B kS)) ?_
                                                          refine l_eff (e_alloc zr_102) (fun v77 w77 h77 => ?_)
                                                          obtain ⟨b77, rfl, n77⟩ := h77
                                                          have d2_77 : b2 < b77 := Nat.lt_of_lt_of_le k2.lt n77.fresh
                                                          have d44_77 : b44 < b77 := Nat.lt_of_lt_of_le k44.lt n77.fresh
                                                          have f77 : w.heap.size ≤ b77 := Nat.le_trans U.size n77.fresh
                                                          have nb77 := hF.nb n77.fresh
                                                          replace G := G.tr (Go.ofUp hF n77.up)
                                                          replace hF := hF.up n77.up
                                                          replace k2 := k2.up n77.up
                                                          replace k44 := k44.up n77.up
                                                          replace kS := kS.up n77.up
                                                          replace kL := kL.up n77.up
                                                          replace U := U.tr n77.up
                                                          have k77 := n77.blk
                                                          obtain ⟨zs77, hz77, k77⟩ : ∃ cs : Array Value, cs.size = 179 ∧ Blk w77 b77 cs := ⟨_, rfl, k77⟩
                                                          refine l_effN (e_store sz_102 (et g0 rfl) (cellsV (et (gS rfl g0) rfl) rfl) hlen9 (by exact hone9) k77 (by (rw [hz77]; exact Nat.le_refl _))) (fun v78 w78 h78 => ?_)
                                                          obtain ⟨rfl, x78⟩ := h78
                                                          replace k2 := k2.ch x78.ch (by omega)
                                                          replace k44 := k44.ch x78.ch (by omega)
                                                          replace kS := kS.ch x78.ch (by first | omega | (omega))
                                                          replace kL := kL.ch x78.ch (by first | omega | (intro b hb hm; have := dL b hb; omega))
                                                          replace k77 := x78.blk.full (by rw [hlen9, hz77])
                                                          replace G := G.wr x78 (by first | exact .inr f77 | omega | (simp; omega)) nb77
                                                          replace hF := G.fz
                                                          replace U := U.st x78 (.inr f77)
                                                          refine l_nil ?_
                                                          refine hK76 _ _ ?_
                                                          refine fg4 2 3 8 9 (gS rfl (gS rfl (gS rfl (gS rfl (gS rfl (gS rfl g0)))))) (gS rfl (gS rfl (gS rfl (gS rfl (gS rfl g0))))) (gS rfl (gS rfl (gS rfl (gS rfl g0)))) g0 (fun g => ?_)
                                                          refine c_seq (fun K79 hK79 => ?_)
                                                          exact (by
                                                            refine c_region ?_
                                                            refine l_step (y_moveV (et (gS rfl (gS rfl g0)) rfl)) ?_
                                                            refine l_step (y_fld fld_102_0 (et (gS rfl g0) rfl)) ?_
                                                            refine l_step (y_fld fld_98_0 (et g0 rfl)) ?_
                                                            refine l_step (y_load1 one_92 (et g0 rfl) (at1 (k77.cell hc0))) ?_
                                                            refine l_step (y_bld (bC (et g0 rfl) bN) (bld_world rfl)) ?_
                                                            refine l_step (y_fld fld_102_6 (et (gS rfl (gS rfl (gS rfl (gS rfl (gS rfl g0))))) rfl)) ?_
                                                            refine l_step (y_load1 one_5 (et g0 rfl) (at1 (k77.cell hc13))) ?_
                                                            refine l_step (y_fld fld_102_11 (et (gS rfl (gS rfl (gS rfl (gS rfl (gS rfl (gS rfl (gS rfl g0))))))) rfl)) ?_
                                                            refine l_step (y_load1 one_95 (et g0 rfl) (at1 (k77.cell hc18))) ?_
                                                            refine l_step (y_fld fld_102_14 (et (gS rfl (gS rfl (gS rfl (gS rfl (gS rfl (gS rfl (gS rfl (gS rfl (gS rfl g0))))))))) rfl)) ?_
                                                            refine l_step (y_loadR agg_31 sz_31 (et g0 rfl) (envC_len _ _) (at1R (k77.row hE9))) ?_
                                                            refine l_step (y_bld (bC (et (gS rfl (gS rfl (gS rfl (gS rfl (gS rfl (gS rfl g0)))))) rfl) (bC (et (gS rfl (gS rfl (gS rfl (gS rfl g0)))) rfl) (bC (et (gS rfl (gS rfl g0)) rfl) (bC (et g0 rfl) bN)))) (bld_rest n34.one1 (envC_len _ _))) ?_
                                                            refine l_step (y_nil (et (gS rfl (gS rfl (gS rfl (gS rfl (gS rfl (gS rfl (gS rfl (gS rfl (gS rfl (gS rfl (gS rfl g0))))))))))) rfl)) ?_
                                                            refine l_effN (e_store sz_102 (et g0 rfl) (cellsV (et (gS rfl g0) rfl) rfl) (stC_len _ _ _ s.env (.slice eha s.env.hashes.length ehc)) (by exact stC_one (e := s.env) (vh := (.slice eha s.env.hashes.length ehc)) rfl n34.one1 rfl) kS (by (rw [List.size_toArray, hlen9]; exact Nat.le_refl _))) (fun v80 w80 h80 => ?_)
                                                            obtain ⟨rfl, x80⟩ := h80
                                                            replace k2 := k2.ch x80.ch (by omega)
                                                            replace k44 := k44.ch x80.ch (by omega)
                                                            replace k77 := k77.ch x80.ch (by omega)
                                                            replace kL := kL.ch x80.ch (by intro b hb hm; have := dL b hb; omega)
                                                            replace kS := x80.blk
                                                            replace G := G.wr x80 (.inl (by first | rfl | (simp; done))) nbS
                                                            replace hF := G.fz
                                                            replace U := U.st x80 (.inl (by first | rfl | (simp; done)))
                                                            have h9k := kS
                                                            replace kS : Blk w80 bs (stC (.slice xa75 (goesA (payA2 s) s.now.gone).length xc75) (.slice sa35 sn35 sc35) s.applied s.env (.slice eha s.env.hashes.length ehc)).toArray := by
                                                              rw [← spl_full9 (cs := r9.toArray) (l := (stC (.slice xa75 (goesA (payA2 s) s.now.gone).length xc75) (.slice sa35 sn35 sc35) s.applied s.env (.slice eha s.env.hashes.length ehc))) (by rw [List.size_toArray, hlen9]; exact stC_len _ _ _ _ _)]
                                                              exact h9k
                                                            refine l_nil ?_
                                                            refine hK79 _ _ ?_
                                                            refine fg2 2 8 (gS rfl (gS rfl (gS rfl (gS rfl (gS rfl (gS rfl (gS rfl (gS rfl (gS rfl (gS rfl (gS rfl (gS rfl (gS rfl (gS rfl (gS rfl (gS rfl g0)))))))))))))))) (gS rfl (gS rfl (gS rfl (gS rfl (gS rfl (gS rfl (gS rfl (gS rfl (gS rfl (gS rfl (gS rfl (gS rfl (gS rfl (gS rfl g0)))))))))))))) (fun g => ?_)
                                                            refine c_seq (fun K81 hK81 => ?_)
                                                            exact (by
                                                              refine c_region ?_
                                                              refine l_step (y_loadB agg_44 sz_44 (et g0 rfl) (by rw [List.size_toArray, rcC_len]) (at1B k44)) ?_
                                                              refine l_effN (e_store sz_44 (et (gS rfl (gS rfl g0)) rfl) (cellsV (et g0 rfl) rfl) rcC_len (by exact rc_one rfl rfl) k2 (by (rw [hz2]; exact Nat.le_refl _))) (fun v82 w82 h82 => ?_)
                                                              obtain ⟨rfl, x82⟩ := h82
                                                              replace k44 := k44.ch x82.ch (by omega)
                                                              replace k77 := k77.ch x82.ch (by omega)
                                                              replace kS := kS.ch x82.ch (by first | omega | (omega))
                                                              replace kL := kL.ch x82.ch (by first | omega | (intro b hb hm; have := dL b hb; omega))
                                                              replace k2 := x82.blk.full (by rw [rcC_len, hz2])
                                                              replace G := G.wr x82 (by first | exact .inr f2 | omega | (simp; omega)) nb2
                                                              replace hF := G.fz
                                                              replace U := U.st x82 (.inr f2)
                                                              refine l_nil ?_
                                                              refine hK81 _ _ ?_
                                                              refine fg1 2 (gS rfl (gS rfl g0)) (fun g => ?_)
                                                              refine c_ret ?_
                                                              repeat with_reducible refine then_ret ?_
                                                              refine ret1 rfl (res_blk agg_44 sz_44 (et g0 rfl) (by rw [List.size_toArray, rcC_len]) k2) ?_
                                                              exact ⟨_, _, qa, qc, lq, lr, by rw [if_neg hz0], hbo, hbl, G, kS, SC.rest (fin_rest s) rfl lv75 n34 rfl (hHs.mono hL0) eo (fin_len hfh.accts hfh.gone) so.applied (Nat.lt_of_le_of_lt (Nat.sub_le _ _) so.total), rfl⟩)))))))))))))))))))))))))))))
end Go.Proofs.YgvaawGreat
