import Derived.Test.YgvaawGreatKP
import Derived.Test.YgvaawGreatGc
set_option maxRecDepth 100000
set_option maxHeartbeats 4000000
set_option linter.unusedSimpArgs false
set_option linter.unusedVariables false
namespace Go.Proofs.YgvaawGreat
open Go
/-- bits laid in a block -/
structure Bs (C : Array Value) (L : List Bool) : Prop where
  get : ∀ (i : Nat) b, L[i]? = some b → C[i]? = some (.bool b)
theorem Bs.nil (C : Array Value) : Bs C [] := ⟨fun i b h => by simp at h⟩
theorem Bs.put {C : Array Value} {L : List Bool} {n : Nat} {b : Bool} (h : Bs C L) (hn : L.length = n) (hl : n < C.size) : Bs (spl C (n * 1) [.bool b]) (L ++ [b]) := by
  subst hn
  refine ⟨fun i b' hb => ?_⟩
  rw [Nat.mul_one]
  have hz : L.length + [Value.bool b].length ≤ C.size := by simp only [List.length_cons, List.length_nil]; omega
  by_cases hi : i < L.length
  · rw [List.getElem?_append_left hi] at hb
    rw [get_spl_out hz (by omega)]
    exact h.get i b' hb
  · rw [List.getElem?_append_right (by omega)] at hb
    have h0 : i = L.length := by
      rcases Nat.eq_zero_or_pos (i - L.length) with h0 | h0
      · omega
      · rw [List.getElem?_eq_none (by simp; omega)] at hb; cases hb
    subst h0
    rw [Nat.sub_self] at hb
    have := get_spl_in (i := 0) hz rfl
    rw [Nat.add_zero] at this
    rw [this]
    simp at hb
    rw [hb]
def kPre (l : List Nat) (n k : Nat) : List Bool := kBits (l.take n) ++ (List.range k).map (fun j => (l[n]?.getD 0).testBit j)
theorem kPre_len {l : List Nat} {n : Nat} (hn : n ≤ l.length) (k : Nat) : (kPre l n k).length = 8 * n + k := by
  unfold kPre
  rw [List.length_append, kBits_len, List.length_take, List.length_map, List.length_range, Nat.min_eq_left hn]
theorem kPre_next (l : List Nat) (n k : Nat) : kPre l n k ++ [(l[n]?.getD 0).testBit k] = kPre l n (k + 1) := by
  unfold kPre
  rw [List.range_succ, List.map_append, List.append_assoc]
  rfl
theorem kPre_full {l : List Nat} {n : Nat} (hn : n < l.length) : kPre l n 8 = kPre l (n + 1) 0 := by
  unfold kPre
  rw [List.take_add_one, List.getElem?_eq_getElem hn, kBits_app]
  simp [kBits]
theorem kPre_all (l : List Nat) : kPre l l.length 0 = kBits l := by
  unfold kPre
  rw [List.take_length]
  simp
theorem kPre_zero (l : List Nat) : kPre l 0 0 = [] := by simp [kPre, kBits]
def kPd (l : List Nat) (z : Nat) : List Bool := kBits l ++ [true] ++ List.replicate z false
theorem kPd_len (l : List Nat) (z : Nat) : (kPd l z).length = 8 * l.length + 1 + z := by
  unfold kPd
  rw [List.length_append, List.length_append, kBits_len, List.length_replicate]
  simp only [List.length_cons, List.length_nil]
theorem kPd_next (l : List Nat) (z : Nat) : kPd l z ++ [false] = kPd l (z + 1) := by
  unfold kPd
  rw [List.append_assoc, List.replicate_succ']
theorem kPd_zero (l : List Nat) : kBits l ++ [true] = kPd l 0 := by simp [kPd]
theorem kPd_last {l : List Nat} {z : Nat} (hz : z = (1088 - (8 * l.length + 2) % 1088) % 1088) : kPd l z ++ [true] = kPad l := by
  unfold kPd kPad
  rw [hz]
theorem kPad_len (l : List Nat) : (kPad l).length = 8 * l.length + 2 + (1088 - (8 * l.length + 2) % 1088) % 1088 := by
  rw [← kPd_last rfl, List.length_append, kPd_len]
  simp only [List.length_cons, List.length_nil]
  omega
theorem testBit_and {c k : Nat} : (c / 2 ^ k &&& 1 = 1) ↔ c.testBit k = true := by
  rw [Nat.testBit_eq_decide_div_mod_eq, decide_eq_true_eq, Nat.and_one_is_mod]
theorem kAbs_snoc (L : List Bool) (n : Nat) (h : n < L.length) (s : Nat → Bool) : kAbs (L.take (n + 1)) 0 s = kTake (kAbs (L.take n) 0 s) n L[n] := by
  rw [List.take_add_one, List.getElem?_eq_getElem h, kAbs_append, List.length_take, Nat.min_eq_left (by omega), Nat.zero_add]
  rfl
def oB (s : Nat → Bool) (i : Nat) : List Nat := (List.range 32).map (kByte (fun j => if j < i then s j else false))
theorem oB_len (s : Nat → Bool) (i : Nat) : (oB s i).length = 32 := by simp [oB]
theorem oB_get {s : Nat → Bool} {i j : Nat} (h : j < 32) : (oB s i)[j]? = some (kByte (fun j => if j < i then s j else false) j) := by
  unfold oB
  rw [List.getElem?_map, List.getElem?_range h]
  rfl
theorem oB_full (s : Nat → Bool) : oB s 256 = (List.range 32).map (kByte s) := by
  unfold oB
  refine List.map_congr_left fun j hj => ?_
  have hj := List.mem_range.1 hj
  have e : List.range 8 = [0, 1, 2, 3, 4, 5, 6, 7] := by decide
  unfold kByte
  rw [e]
  simp only [List.foldl_cons, List.foldl_nil, show ∀ k, k < 8 → (8 * j + k < 256) = True from fun k hk => by simp; omega, if_true]
  simp only [show 8 * j + 0 < 256 by omega, show 8 * j + 1 < 256 by omega, show 8 * j + 2 < 256 by omega, show 8 * j + 3 < 256 by omega, show 8 * j + 4 < 256 by omega, show 8 * j + 5 < 256 by omega, show 8 * j + 6 < 256 by omega, show 8 * j + 7 < 256 by omega, if_true]
theorem kByte_bit (s : Nat → Bool) (j : Nat) : ∀ k, k < 8 → (kByte s j).testBit k = s (8 * j + k) := by
  have h : ∀ b0 b1 b2 b3 b4 b5 b6 b7 : Bool, ∀ k : Fin 8, ((((((((0 + if b0 = true then 2 ^ 0 else 0) + if b1 = true then 2 ^ 1 else 0) + if b2 = true then 2 ^ 2 else 0) + if b3 = true then 2 ^ 3 else 0) + if b4 = true then 2 ^ 4 else 0) + if b5 = true then 2 ^ 5 else 0) + if b6 = true then 2 ^ 6 else 0) + if b7 = true then 2 ^ 7 else 0).testBit k.1 = [b0, b1, b2, b3, b4, b5, b6, b7].getD k.1 false := by decide
  have e : List.range 8 = [0, 1, 2, 3, 4, 5, 6, 7] := by decide
  intro k hk
  unfold kByte
  rw [e]
  simp only [List.foldl_cons, List.foldl_nil]
  rw [h _ _ _ _ _ _ _ _ ⟨k, hk⟩]
  match k, hk with
  | 0, _ => rfl
  | 1, _ => rfl
  | 2, _ => rfl
  | 3, _ => rfl
  | 4, _ => rfl
  | 5, _ => rfl
  | 6, _ => rfl
  | 7, _ => rfl
  | _ + 8, h => exact absurd h (by omega)
theorem eq256 {a b : Nat} (ha : a < 256) (hb : b < 256) (h : ∀ k, k < 8 → a.testBit k = b.testBit k) : a = b := by
  apply Nat.eq_of_testBit_eq
  intro k
  by_cases hk : k < 8
  · exact h k hk
  · rw [Nat.testBit_lt_two_pow (Nat.lt_of_lt_of_le ha (Nat.pow_le_pow_right (n := 2) (by decide) (show 8 ≤ k by omega))), Nat.testBit_lt_two_pow (Nat.lt_of_lt_of_le hb (Nat.pow_le_pow_right (n := 2) (by decide) (show 8 ≤ k by omega)))]
theorem oB_skip {s : Nat → Bool} {i : Nat} (h : s i = false) : oB s i = oB s (i + 1) := by
  unfold oB
  refine List.map_congr_left fun j hj => ?_
  refine eq256 (kByte_lt _ _) (kByte_lt _ _) fun k hk => ?_
  rw [kByte_bit _ _ k hk, kByte_bit _ _ k hk]
  by_cases h1 : 8 * j + k = i
  · rw [if_neg (by omega), if_pos (by omega), h1, h]
  · by_cases h2 : 8 * j + k < i
    · rw [if_pos h2, if_pos (by omega)]
    · rw [if_neg h2, if_neg (by omega)]
theorem oB_set {s : Nat → Bool} {i : Nat} (hi : i < 256) (h : s i = true) : (oB s i).set (i / 8) (kByte (fun j => if j < i then s j else false) (i / 8) ||| (1 * 2 ^ (i % 8) % 256)) = oB s (i + 1) := by
  have hp : (1 * 2 ^ (i % 8) % 256) = 2 ^ (i % 8) := by
    rw [Nat.one_mul]
    exact Nat.mod_eq_of_lt (Nat.lt_of_lt_of_le (Nat.pow_lt_pow_right (by decide) (show i % 8 < 8 by omega)) (by decide))
  apply List.ext_getElem?
  intro j
  rw [List.getElem?_set]
  by_cases hj : j < 32
  · rw [oB_get hj]
    by_cases h1 : i / 8 = j
    · rw [if_pos h1, if_pos (by rw [oB_len]; omega), oB_get hj, h1, hp]
      congr 1
      refine eq256 (Nat.or_lt_two_pow (n := 8) (kByte_lt _ _) (Nat.pow_lt_pow_right (by decide) (by omega))) (kByte_lt _ _) fun k hk => ?_
      rw [Nat.testBit_or, kByte_bit _ _ k hk, kByte_bit _ _ k hk, Nat.testBit_two_pow]
      by_cases h2 : 8 * j + k = i
      · rw [if_neg (by omega), if_pos (by omega), h2, h]
        simp
        omega
      · have h3 : decide (i % 8 = k) = false := decide_eq_false (by omega)
        rw [h3, Bool.or_false]
        by_cases h4 : 8 * j + k < i
        · rw [if_pos h4, if_pos (by omega)]
        · rw [if_neg h4, if_neg (by omega)]
    · rw [if_neg h1, oB_get hj]
      congr 1
      refine eq256 (kByte_lt _ _) (kByte_lt _ _) fun k hk => ?_
      rw [kByte_bit _ _ k hk, kByte_bit _ _ k hk]
      by_cases h4 : 8 * j + k < i
      · rw [if_pos h4, if_pos (by omega)]
      · rw [if_neg h4, if_neg (by omega)]
  · rw [if_neg (by omega), List.getElem?_eq_none (by rw [oB_len]; omega), List.getElem?_eq_none (by rw [oB_len]; omega)]
theorem sc_zero : (List.replicate 1600 (Value.bool false)).toArray = sCells (fun _ => false) := by
  apply Array.ext_getElem?
  intro i
  by_cases hi : i < 1600
  · rw [sc_get hi, List.getElem?_toArray, List.getElem?_replicate, if_pos hi]
  · rw [Array.getElem?_eq_none (by rw [List.size_toArray, List.length_replicate]; omega), Array.getElem?_eq_none (by rw [sc_size]; omega)]
theorem oB_zero (s : Nat → Bool) : List.replicate 32 0 = oB s 0 := by
  unfold oB
  simp only [show (fun j => if j < 0 then s j else false) = fun _ => false by funext j; simp]
  decide
theorem made_size (cs : Array Value) (n : Nat) : (madeCells cs n).size = n := by simp [madeCells]
theorem neq_xor2 (p q : Bool) : (!(p == q)) = (p ^^ q) := by cases p <;> cases q <;> rfl
theorem take_put {s : Nat → Bool} {n : Nat} {b : Bool} : sCells (fun i => if i = n % 1088 then s (n % 1088) ^^ b else s i) = sCells (fun i => if i = n % 1088 then s i ^^ b else s i) := by
  congr 1
  funext i
  by_cases h : i = n % 1088
  · rw [if_pos h, if_pos h, h]
  · rw [if_neg h, if_neg h]
theorem km_Sum {s0 c : Nat} {a : Option Addr} {l : List Nat} {w : World} (hW : WV s0 w (.slice a l.length c) l) (hs0 : s0 ≤ w.heap.size) (hl : l.length ≤ 1099511627776) :
    Ret 215 [.slice a l.length c] w (fun v w' => v = hV (kecN l) ∧ Up w w') := by
  refine enter (n := 87) Hvaa.func215 rfl rfl (Nat.le_of_ble_eq_true rfl) ?_
  have U := Up.refl w
  refine c_seq (fun K1 hK1 => ?_)
  refine c_region ?_
  refine l_eff (e_alloc zr_27) (fun v2 w2 h2 => ?_)
  obtain ⟨b2, rfl, n2⟩ := h2
  have f2 : w.heap.size ≤ b2 := Nat.le_trans U.size n2.fresh
  replace hW := hW.up n2.up
  replace U := U.tr n2.up
  have k2 := n2.blk
  refine l_nil ?_
  refine hK1 _ _ ?_
  refine c_seq (fun K3 hK3 => ?_)
  refine c_region ?_
  refine l_step (y_moveV (et (gS rfl g0) rfl)) ?_
  refine l_step (y_len Hvaa.underlying38 (et g0 rfl)) ?_
  refine l_step (y_mul rfl (et g0 rfl) (mulIN (x := 8) ?_)) ?_
  omega
  refine l_step (y_add (et g0 rfl) rfl (addIN (y := 2176) ?_)) ?_
  omega
  refine l_eff (e_makeC (m := 0) (c := (8 * l.length + 2176)) Hvaa.underlying215 sz_4 zr_4 by_4 rfl (et g0 rfl) (by omega) (by omega) (by omega)) (fun v4 w4 h4 => ?_)
  obtain ⟨b4, rfl, n4⟩ := h4
  have d2_4 : b2 < b4 := Nat.lt_of_lt_of_le k2.lt n4.fresh
  have f4 : w.heap.size ≤ b4 := Nat.le_trans U.size n4.fresh
  replace k2 := k2.up n4.up
  replace hW := hW.up n4.up
  replace U := U.tr n4.up
  have k4 := n4.blk
  obtain ⟨C, hCd⟩ : ∃ C, C = madeCells (Value.bool false).cells ((8 * l.length + 2176) * 1) := ⟨_, rfl⟩
  have hCz : C.size = (8 * l.length + 2176) := by rw [hCd, made_size, Nat.mul_one]
  replace k4 : Blk w4 b4 C := by rw [hCd]; exact k4
  refine l_step (y_assignV (et g0 rfl)) ?_
  refine l_nil ?_
  refine hK3 _ _ ?_
  refine fg3 0 2 3 (gS rfl (gS rfl (gS rfl (gS rfl (gS rfl (gS rfl (gS rfl g0))))))) (gS rfl (gS rfl (gS rfl (gS rfl (gS rfl (gS rfl g0)))))) g0 (fun g => ?_)
  refine c_seq (fun K5 hK5 => ?_)
  refine c_seq (fun K6 hK6 => ?_)
  refine c_region ?_
  refine l_step (y_moveV (et (gS rfl (gS rfl g0)) rfl)) ?_
  refine l_step (y_len Hvaa.underlying38 (et g0 rfl)) ?_
  refine l_step y_moveC ?_
  refine l_nil ?_
  refine hK6 _ _ ?_
  refine fg5 2 3 17 18 19 (gS rfl (gS rfl (gS rfl (gS rfl g0)))) (gS rfl (gS rfl (gS rfl g0))) (gS rfl (gS rfl g0)) (gS rfl g0) g0 (fun g => ?_)
  refine c_block (fun Q7 hQ7 => ?_)
  refine fg5 2 3 17 18 19 (gS rfl (gS rfl (gS rfl (gS rfl g0)))) (gS rfl (gS rfl (gS rfl g0))) (gS rfl (gS rfl g0)) (gS rfl g0) g0 (fun g => ?_)
  refine c_loop (fun k_ s_ W8 => ∃ (g : Nat → Value) (C : Array Value) (n m : Nat), s_ = (upd (upd (upd (upd (upd g 2 (.pointer (some ⟨b2, 0, none⟩))) 3 (.slice (some ⟨b4, 0, none⟩) m (8 * l.length + 2176))) 17 (.slice a l.length c)) 18 (.int .i64 (l.length : Nat))) 19 (.int .i64 (n : Nat))) ∧ l.length - n = k_ ∧ (n ≤ l.length) ∧ (m = 8 * n) ∧ (C.size = (8 * l.length + 2176)) ∧ (Bs C (kPre l n 0)) ∧ Blk W8 b4 (C) ∧ Ch (fun k => k = b4) w4 W8) (l.length - (0)) ?_ ?_
  · exact ⟨g, _, 0, 0, rfl, rfl, Nat.zero_le _, rfl, hCz, by rw [kPre_zero]; exact Bs.nil _, k4, Ch.refl _ _⟩
  · skip
    intro k_ s_ W8 hI K8 hK8
    obtain ⟨g, C, n, m, rfl, rfl, hn, hm, hCz, hB, nk4, V8⟩ := hI
    replace k2 := k2.ch V8 (by omega)
    replace hW := hW.ch V8 (by first | omega | (intro b hb; omega))
    replace k4 := nk4
    replace U := U.cc V8 (by intro b hb; first | exact hb.elim | omega | (simp at hb ⊢; omega))
    refine c_seq (fun K9 hK9 => ?_)
    refine c_region ?_
    refine l_step (y_lss (et g0 rfl) (et (gS rfl g0) rfl)) ?_
    refine l_nil ?_
    refine hK9 _ _ ?_
    refine c_seq (fun K10 hK10 => ?_)
    refine c_cond (et g0 rfl) (fun cB1 => ?_) (fun cB1 => ?_)
    · skip
      
      have hnl : n < l.length := by have := of_decide_eq_true cB1; omega
      obtain ⟨db, do_, rfl, hdb, hdr⟩ := hW.at (by omega)
      have hd8 := hW.dig _ (List.getElem_mem hnl)
      refine c_skip ?_
      refine hK10 _ _ ?_
      refine fg5 2 3 17 18 19 (gS rfl (gS rfl (gS rfl (gS rfl (gS rfl g0))))) (gS rfl (gS rfl (gS rfl (gS rfl g0)))) (gS rfl (gS rfl (gS rfl g0))) (gS rfl (gS rfl g0)) (gS rfl g0) (fun g => ?_)
      refine c_seq (fun K12 hK12 => ?_)
      refine c_block (fun Q13 hQ13 => ?_)
      refine c_seq (fun K14 hK14 => ?_)
      refine c_region ?_
      refine l_step (y_idxS Hvaa.underlying38 sz_5 (et (gS rfl (gS rfl g0)) rfl) (et g0 rfl) ?_ ?_) ?_
      omega
      omega
      refine l_step (y_load1 one_5 (et g0 rfl) (at1 (row_byte hdr hnl))) ?_
      refine l_step (y_assignV (et g0 rfl)) ?_
      refine l_nil ?_
      refine hK14 _ _ ?_
      refine fg6 2 3 17 18 19 5 (gS rfl (gS rfl (gS rfl (gS rfl (gS rfl (gS rfl (gS rfl g0))))))) (gS rfl (gS rfl (gS rfl (gS rfl (gS rfl (gS rfl g0)))))) (gS rfl (gS rfl (gS rfl (gS rfl (gS rfl g0))))) (gS rfl (gS rfl (gS rfl (gS rfl g0)))) (gS rfl (gS rfl (gS rfl g0))) g0 (fun g => ?_)
      refine c_seq (fun K15 hK15 => ?_)
      refine c_region ?_
      refine l_step y_assignC ?_
      refine l_nil ?_
      refine hK15 _ _ ?_
      refine c_block (fun Q16 hQ16 => ?_)
      refine fg7 2 3 5 6 17 18 19 (gS rfl (gS rfl (gS rfl (gS rfl (gS rfl (gS rfl g0)))))) (gS rfl (gS rfl (gS rfl (gS rfl (gS rfl g0))))) (gS rfl g0) g0 (gS rfl (gS rfl (gS rfl (gS rfl g0)))) (gS rfl (gS rfl (gS rfl g0))) (gS rfl (gS rfl g0)) (fun g => ?_)
      refine c_loop (fun k_ s_ W17 => ∃ (g : Nat → Value) (C2 : Array Value) (k m2 : Nat), s_ = (upd (upd (upd (upd (upd (upd (upd g 2 (.pointer (some ⟨b2, 0, none⟩))) 3 (.slice (some ⟨b4, 0, none⟩) m2 (8 * l.length + 2176))) 5 (.int .u8 (l[n] : Nat))) 6 (.int .i64 (k : Nat))) 17 (.slice (some ⟨db, do_, none⟩) l.length c)) 18 (.int .i64 (l.length : Nat))) 19 (.int .i64 (n : Nat))) ∧ 8 - k = k_ ∧ (k ≤ 8) ∧ (m2 = 8 * n + k) ∧ (C2.size = (8 * l.length + 2176)) ∧ (Bs C2 (kPre l n k)) ∧ Blk W17 b4 (C2) ∧ Ch (fun k => k = b4) W8 W17) (8 - (0)) ?_ ?_
      · exact ⟨g, _, 0, _, rfl, rfl, Nat.zero_le _, hm, hCz, hB, k4, Ch.refl _ _⟩
      · skip
        intro k_ s_ W17 hI K17 hK17
        obtain ⟨g, C2, k, m2, rfl, rfl, hk, hm2, hCz2, hB2, nk4, V17⟩ := hI
        replace k2 := k2.ch V17 (by omega)
        replace hW := hW.ch V17 (by first | omega | (intro b hb; omega))
        replace k4 := nk4
        replace V8 := V8.cc V17 (by intro b hb; first | exact hb.elim | omega)
        replace U := U.cc V17 (by intro b hb; first | exact hb.elim | omega | (simp at hb ⊢; omega))
        refine c_seq (fun K18 hK18 => ?_)
        refine c_seq (fun K19 hK19 => ?_)
        refine c_region ?_
        refine l_step (y_moveV (et (gS rfl (gS rfl (gS rfl g0))) rfl)) ?_
        refine l_step (y_lss (et g0 rfl) rfl) ?_
        refine l_nil ?_
        refine hK19 _ _ ?_
        refine fg8 2 3 5 6 17 18 19 24 (gS rfl (gS rfl (gS rfl (gS rfl (gS rfl (gS rfl (gS rfl (gS rfl g0)))))))) (gS rfl (gS rfl (gS rfl (gS rfl (gS rfl (gS rfl (gS rfl g0))))))) (gS rfl (gS rfl (gS rfl (gS rfl (gS rfl (gS rfl g0)))))) (gS rfl (gS rfl (gS rfl (gS rfl (gS rfl g0))))) (gS rfl (gS rfl (gS rfl (gS rfl g0)))) (gS rfl (gS rfl (gS rfl g0))) (gS rfl (gS rfl g0)) g0 (fun g => ?_)
        refine c_cond (et g0 rfl) (fun cB2 => ?_) (fun cB2 => ?_)
        · skip
          
          have hkl : k < 8 := by have := of_decide_eq_true cB2; omega
          refine c_skip ?_
          refine hK18 _ _ ?_
          refine fg7 2 3 5 6 17 18 19 (gS rfl (gS rfl (gS rfl (gS rfl (gS rfl (gS rfl (gS rfl g0))))))) (gS rfl (gS rfl (gS rfl (gS rfl (gS rfl (gS rfl g0)))))) (gS rfl (gS rfl (gS rfl (gS rfl (gS rfl g0))))) (gS rfl (gS rfl (gS rfl (gS rfl g0)))) (gS rfl (gS rfl (gS rfl g0))) (gS rfl (gS rfl g0)) (gS rfl g0) (fun g => ?_)
          refine c_seq (fun K21 hK21 => ?_)
          refine c_block (fun Q22 hQ22 => ?_)
          refine c_region ?_
          refine l_step (y_moveV (et (gS rfl (gS rfl (gS rfl (gS rfl (gS rfl g0))))) rfl)) ?_
          refine l_step (y_moveV (et (gS rfl (gS rfl (gS rfl (gS rfl (gS rfl g0))))) rfl)) ?_
          refine l_step (y_moveV (et (gS rfl (gS rfl (gS rfl (gS rfl (gS rfl g0))))) rfl)) ?_
          refine l_step (y_shr (et (gS rfl g0) rfl) (et g0 rfl) ?_ (shr8N ?_)) ?_
          omega
          omega
          refine l_step (y_andM 1 2 uk8 (et g0 rfl) rfl ?_ rfl rfl (by decide)) ?_
          exact Nat.lt_of_le_of_lt (Nat.div_le_self _ _) hd8
          refine l_step (y_eql (et g0 rfl) rfl) ?_
          have eb : decide (((l[n] / 2 ^ k % 2 : Nat) : Int) = 1) = (l[n]?.getD 0).testBit k := by rw [List.getElem?_eq_getElem hnl, Option.getD_some, Nat.testBit_eq_decide_div_mod_eq]; apply decide_eq_decide.2; omega
          refine l_eff (e_slice1 (k := 0) Hvaa.underlying215 sz_4 zr_4 rfl (by decide) (et g0 rfl) rfl) (fun v23 w23 h23 => ?_)
          obtain ⟨bq23, rfl, nq23⟩ := h23
          replace k2 := k2.up nq23.up
          replace k4 := k4.up nq23.up
          replace hW := hW.up nq23.up
          replace U := U.tr nq23.up
          replace V8 := V8.tr nq23.up
          replace V17 := V17.tr nq23.up
          have kq := nq23.blk
          rw [eb] at kq
          refine l_eff (e_appIn (N := m2) (cap := (8 * l.length + 2176)) (m := 1) Hvaa.underlying215 sz_4 zr_4 by_4 (et (gS rfl (gS rfl (gS rfl (gS rfl (gS rfl (gS rfl g0)))))) rfl) k4 (by rw [hCz2]; omega) (by omega) (et g0 rfl) (by decide) rfl (kq.row (RowIn.self [Value.bool ((l[n]?.getD 0).testBit k)])) (by intro u hu; simp at hu; subst hu; rfl)) (fun v24 w24 h24 => ?_)
          obtain ⟨rfl, ka24, c24⟩ := h24
          replace k2 := k2.ch c24 (by first | omega | (intro b hb; omega))
          replace hW := hW.ch c24 (by first | omega | (intro b hb; omega))
          replace k4 := ka24
          replace V8 := V8.cc c24 (by intro b hb; first | omega | (simp at hb ⊢; omega) | (have := hOo.lim b hb.symm; omega))
          replace V17 := V17.cc c24 (by intro b hb; first | omega | (simp at hb ⊢; omega) | (have := hOo.lim b hb.symm; omega))
          replace U := U.cc c24 (by intro b hb; first | exact hb ▸ f4 | omega)
          have hB24 := Bs.put (n := m2) (b := (l[n]?.getD 0).testBit k) hB2 (by rw [kPre_len (by omega), hm2]) (by rw [hCz2]; omega)
          rw [kPre_next] at hB24
          refine l_step (y_assignV (et g0 rfl)) ?_
          refine l_nil ?_
          refine hQ22 _ _ _ (in_normal ?_)
          refine hK21 _ _ ?_
          refine fg7 2 3 5 6 17 18 19 (gS rfl (gS rfl (gS rfl (gS rfl (gS rfl (gS rfl (gS rfl (gS rfl (gS rfl (gS rfl (gS rfl (gS rfl (gS rfl (gS rfl (gS rfl g0))))))))))))))) g0 (gS rfl (gS rfl (gS rfl (gS rfl (gS rfl (gS rfl (gS rfl (gS rfl (gS rfl (gS rfl (gS rfl (gS rfl (gS rfl g0))))))))))))) (gS rfl (gS rfl (gS rfl (gS rfl (gS rfl (gS rfl (gS rfl (gS rfl (gS rfl (gS rfl (gS rfl (gS rfl g0)))))))))))) (gS rfl (gS rfl (gS rfl (gS rfl (gS rfl (gS rfl (gS rfl (gS rfl (gS rfl (gS rfl (gS rfl g0))))))))))) (gS rfl (gS rfl (gS rfl (gS rfl (gS rfl (gS rfl (gS rfl (gS rfl (gS rfl (gS rfl g0)))))))))) (gS rfl (gS rfl (gS rfl (gS rfl (gS rfl (gS rfl (gS rfl (gS rfl (gS rfl g0))))))))) (fun g => ?_)
          refine c_region ?_
          refine l_step (y_moveV (et (gS rfl (gS rfl (gS rfl g0))) rfl)) ?_
          refine l_step (y_add (et g0 rfl) rfl (addIN (y := 1) ?_)) ?_
          omega
          refine l_step (y_assignV (et g0 rfl)) ?_
          refine l_nil ?_
          refine fK7 2 3 5 6 17 18 19 (gS rfl (gS rfl (gS rfl (gS rfl (gS rfl (gS rfl (gS rfl (gS rfl (gS rfl g0))))))))) (gS rfl (gS rfl (gS rfl (gS rfl (gS rfl (gS rfl (gS rfl (gS rfl g0)))))))) (gS rfl (gS rfl (gS rfl (gS rfl (gS rfl (gS rfl (gS rfl g0))))))) g0 (gS rfl (gS rfl (gS rfl (gS rfl (gS rfl g0))))) (gS rfl (gS rfl (gS rfl (gS rfl g0)))) (gS rfl (gS rfl (gS rfl g0))) (fun g => ?_)
          exact hK17 (8 - ((k + 1))) _ _ (by omega) ⟨g, _, (k + 1), _, rfl, rfl, by omega, by rw [hm2]; rfl, by rw [size_spl]; exact hCz2, hB24, k4, V17⟩
        · skip
          
          have hkl : k = 8 := by have := of_decide_eq_false cB2; omega
          subst hkl
          refine c_exit ?_
          refine hQ16 _ _ _ (in_exit ?_)
          refine hQ13 _ _ _ (in_normal ?_)
          refine hK12 _ _ ?_
          refine fg5 2 3 17 18 19 (gS rfl (gS rfl (gS rfl (gS rfl (gS rfl (gS rfl (gS rfl g0))))))) (gS rfl (gS rfl (gS rfl (gS rfl (gS rfl (gS rfl g0)))))) (gS rfl (gS rfl (gS rfl g0))) (gS rfl (gS rfl g0)) (gS rfl g0) (fun g => ?_)
          refine c_region ?_
          refine l_step (y_add (et g0 rfl) rfl (addIN (y := 1) ?_)) ?_
          omega
          refine l_step (y_moveV (et g0 rfl)) ?_
          refine l_nil ?_
          refine fK5 2 3 17 18 19 (gS rfl (gS rfl (gS rfl (gS rfl (gS rfl (gS rfl g0)))))) (gS rfl (gS rfl (gS rfl (gS rfl (gS rfl g0))))) (gS rfl (gS rfl (gS rfl (gS rfl g0)))) (gS rfl (gS rfl (gS rfl g0))) g0 (fun g => ?_)
          exact hK8 (l.length - ((n + 1))) _ _ (by omega) ⟨g, _, (n + 1), _, rfl, rfl, by omega, hm2.trans (by omega), hCz2, by rw [← kPre_full hnl]; exact hB2, k4, V8⟩
    · skip
      
      have hnl : n = l.length := by have := of_decide_eq_false cB1; omega
      subst hnl
      rw [kPre_all] at hB
      refine c_exit ?_
      refine hQ7 _ _ _ (in_exit ?_)
      refine hK5 _ _ ?_
      refine fg2 2 3 (gS rfl (gS rfl (gS rfl (gS rfl (gS rfl g0))))) (gS rfl (gS rfl (gS rfl (gS rfl g0)))) (fun g => ?_)
      refine c_seq (fun K25 hK25 => ?_)
      refine c_region ?_
      refine l_step (y_moveV (et g0 rfl)) ?_
      refine l_eff (e_slice1 (k := 0) Hvaa.underlying215 sz_4 zr_4 rfl (by decide) rfl rfl) (fun v26 w26 h26 => ?_)
      obtain ⟨bq26, rfl, nq26⟩ := h26
      replace k2 := k2.up nq26.up
      replace k4 := k4.up nq26.up
      replace hW := hW.up nq26.up
      replace U := U.tr nq26.up
      have kq := nq26.blk
      refine l_eff (e_appIn (N := m) (cap := (8 * l.length + 2176)) (m := 1) Hvaa.underlying215 sz_4 zr_4 by_4 (et (gS rfl g0) rfl) k4 (by rw [hCz]; omega) (by omega) (et g0 rfl) (by decide) rfl (kq.row (RowIn.self [Value.bool (true)])) (by intro u hu; simp at hu; subst hu; rfl)) (fun v27 w27 h27 => ?_)
      obtain ⟨rfl, ka27, c27⟩ := h27
      replace k2 := k2.ch c27 (by first | omega | (intro b hb; omega))
      replace hW := hW.ch c27 (by first | omega | (intro b hb; omega))
      replace k4 := ka27
      replace U := U.cc c27 (by intro b hb; first | exact hb ▸ f4 | omega)
      have hCs27 := hCz
      have hB27 := Bs.put (n := m) (b := true) hB (by rw [kBits_len, hm]) (by rw [hCz]; omega)
      rw [kPd_zero] at hB27
      replace hB := hB27
      replace hCz : (spl C (m * 1) [Value.bool true]).size = (8 * l.length + 2176) := by rw [size_spl]; exact hCz
      obtain ⟨Z, hZ⟩ : ∃ Z, Z = (1088 - (8 * l.length + 2) % 1088) % 1088 := ⟨_, rfl⟩
      refine l_step (y_assignV (et g0 rfl)) ?_
      refine l_nil ?_
      refine hK25 _ _ ?_
      refine fg2 2 3 (gS rfl (gS rfl (gS rfl (gS rfl (gS rfl g0))))) g0 (fun g => ?_)
      refine c_seq (fun K28 hK28 => ?_)
      refine c_block (fun Q29 hQ29 => ?_)
      refine fg2 2 3 (gS rfl g0) g0 (fun g => ?_)
      refine c_loop (fun k_ s_ W30 => ∃ (g : Nat → Value) (C3 : Array Value) (z m3 : Nat), s_ = (upd (upd g 2 (.pointer (some ⟨b2, 0, none⟩))) 3 (.slice (some ⟨b4, 0, none⟩) m3 (8 * l.length + 2176))) ∧ Z - z = k_ ∧ (z ≤ Z) ∧ (m3 = 8 * l.length + 1 + z) ∧ (C3.size = (8 * l.length + 2176)) ∧ (Bs C3 (kPd l z)) ∧ Blk W30 b4 (C3) ∧ Ch (fun k => k = b4) w27 W30) (Z - (0)) ?_ ?_
      · exact ⟨g, _, 0, _, rfl, rfl, Nat.zero_le _, by omega, hCz, hB, k4, Ch.refl _ _⟩
      · skip
        intro k_ s_ W30 hI K30 hK30
        obtain ⟨g, C3, z, m3, rfl, rfl, hz, hm3, hCz3, hB3, nk4, V30⟩ := hI
        replace k2 := k2.ch V30 (by omega)
        replace hW := hW.ch V30 (by first | omega | (intro b hb; omega))
        replace k4 := nk4
        replace U := U.cc V30 (by intro b hb; first | exact hb.elim | omega | (simp at hb ⊢; omega))
        refine c_seq (fun K31 hK31 => ?_)
        refine c_seq (fun K32 hK32 => ?_)
        refine c_region ?_
        refine l_step (y_moveV (et g0 rfl)) ?_
        refine l_step (y_len Hvaa.underlying215 (et g0 rfl)) ?_
        refine l_step (y_rem (et g0 rfl) rfl (by decide) (remN (b := 1088))) ?_
        refine l_step (y_neq (et g0 rfl) rfl) ?_
        refine l_nil ?_
        refine hK32 _ _ ?_
        refine fg3 2 3 42 (gS rfl (gS rfl (gS rfl (gS rfl (gS rfl g0))))) (gS rfl (gS rfl (gS rfl (gS rfl g0)))) g0 (fun g => ?_)
        refine c_cond (et g0 rfl) (fun cB3 => ?_) (fun cB3 => ?_)
        · skip
          
          have hzl : z < Z := by have := of_decide_eq_true cB3; omega
          refine c_skip ?_
          refine hK31 _ _ ?_
          refine fg2 2 3 (gS rfl (gS rfl g0)) (gS rfl g0) (fun g => ?_)
          refine c_block (fun Q34 hQ34 => ?_)
          refine c_region ?_
          refine l_step (y_moveV (et g0 rfl)) ?_
          refine l_eff (e_slice1 (k := 0) Hvaa.underlying215 sz_4 zr_4 rfl (by decide) rfl rfl) (fun v35 w35 h35 => ?_)
          obtain ⟨bq35, rfl, nq35⟩ := h35
          replace k2 := k2.up nq35.up
          replace k4 := k4.up nq35.up
          replace hW := hW.up nq35.up
          replace U := U.tr nq35.up
          replace V30 := V30.tr nq35.up
          have kq := nq35.blk
          refine l_eff (e_appIn (N := m3) (cap := (8 * l.length + 2176)) (m := 1) Hvaa.underlying215 sz_4 zr_4 by_4 (et (gS rfl g0) rfl) k4 (by rw [hCz3]; omega) (by omega) (et g0 rfl) (by decide) rfl (kq.row (RowIn.self [Value.bool (false)])) (by intro u hu; simp at hu; subst hu; rfl)) (fun v36 w36 h36 => ?_)
          obtain ⟨rfl, ka36, c36⟩ := h36
          replace k2 := k2.ch c36 (by first | omega | (intro b hb; omega))
          replace hW := hW.ch c36 (by first | omega | (intro b hb; omega))
          replace k4 := ka36
          replace V30 := V30.cc c36 (by intro b hb; first | omega | (simp at hb ⊢; omega) | (have := hOo.lim b hb.symm; omega))
          replace U := U.cc c36 (by intro b hb; first | exact hb ▸ f4 | omega)
          have hB36 := Bs.put (n := m3) (b := false) hB3 (by rw [kPd_len, hm3]) (by rw [hCz3]; omega)
          rw [kPd_next] at hB36
          refine l_step (y_assignV (et g0 rfl)) ?_
          refine l_nil ?_
          refine hQ34 _ _ _ (in_normal ?_)
          refine fK2 2 3 (gS rfl (gS rfl (gS rfl (gS rfl (gS rfl g0))))) g0 (fun g => ?_)
          exact hK30 (Z - ((z + 1))) _ _ (by omega) ⟨g, _, (z + 1), _, rfl, rfl, by omega, by omega, by rw [size_spl]; exact hCz3, hB36, k4, V30⟩
        · skip
          
          have hzl : z = Z := by have := of_decide_eq_false cB3; omega
          subst hzl
          refine c_exit ?_
          refine hQ29 _ _ _ (in_exit ?_)
          refine hK28 _ _ ?_
          refine fg2 2 3 (gS rfl (gS rfl g0)) (gS rfl g0) (fun g => ?_)
          refine c_seq (fun K37 hK37 => ?_)
          refine c_region ?_
          refine l_step (y_moveV (et g0 rfl)) ?_
          refine l_eff (e_slice1 (k := 0) Hvaa.underlying215 sz_4 zr_4 rfl (by decide) rfl rfl) (fun v38 w38 h38 => ?_)
          obtain ⟨bq38, rfl, nq38⟩ := h38
          replace k2 := k2.up nq38.up
          replace k4 := k4.up nq38.up
          replace hW := hW.up nq38.up
          replace U := U.tr nq38.up
          have kq := nq38.blk
          refine l_eff (e_appIn (N := m3) (cap := (8 * l.length + 2176)) (m := 1) Hvaa.underlying215 sz_4 zr_4 by_4 (et (gS rfl g0) rfl) k4 (by rw [hCz3]; omega) (by omega) (et g0 rfl) (by decide) rfl (kq.row (RowIn.self [Value.bool (true)])) (by intro u hu; simp at hu; subst hu; rfl)) (fun v39 w39 h39 => ?_)
          obtain ⟨rfl, ka39, c39⟩ := h39
          replace k2 := k2.ch c39 (by first | omega | (intro b hb; omega))
          replace hW := hW.ch c39 (by first | omega | (intro b hb; omega))
          replace k4 := ka39
          replace U := U.cc c39 (by intro b hb; first | exact hb ▸ f4 | omega)
          have hB39 := Bs.put (n := m3) (b := true) hB3 (by rw [kPd_len, hm3]) (by rw [hCz3]; omega)
          rw [kPd_last hZ] at hB39
          replace hB := hB39
          have hpl : (kPad l).length = m3 + 1 := by rw [kPad_len, ← hZ]; omega
          obtain ⟨C4, hC4⟩ : ∃ C4, C4 = spl C3 (m3 * 1) [Value.bool true] := ⟨_, rfl⟩
          rw [← hC4] at hB k4
          refine l_step (y_assignV (et g0 rfl)) ?_
          refine l_nil ?_
          refine hK37 _ _ ?_
          refine fg2 2 3 (gS rfl (gS rfl (gS rfl (gS rfl (gS rfl g0))))) g0 (fun g => ?_)
          refine c_seq (fun K40 hK40 => ?_)
          refine c_region ?_
          refine l_eff (e_alloc zr_383) (fun v41 w41 h41 => ?_)
          obtain ⟨b41, rfl, n41⟩ := h41
          have d2_41 : b2 < b41 := Nat.lt_of_lt_of_le k2.lt n41.fresh
          have d4_41 : b4 < b41 := Nat.lt_of_lt_of_le k4.lt n41.fresh
          have f41 : w.heap.size ≤ b41 := Nat.le_trans U.size n41.fresh
          replace k2 := k2.up n41.up
          replace k4 := k4.up n41.up
          replace hW := hW.up n41.up
          replace U := U.tr n41.up
          have k41 := n41.blk
          replace k41 : Blk w41 b41 (sCells (fun _ => false)) := by rw [← sc_zero]; exact k41
          refine l_nil ?_
          refine hK40 _ _ ?_
          refine c_seq (fun K42 hK42 => ?_)
          refine c_seq (fun K43 hK43 => ?_)
          refine c_region ?_
          refine l_step (y_moveV (et (gS rfl g0) rfl)) ?_
          refine l_step (y_len Hvaa.underlying215 (et g0 rfl)) ?_
          refine l_step y_moveC ?_
          refine l_nil ?_
          refine hK43 _ _ ?_
          refine fg5 2 7 49 50 51 (gS rfl (gS rfl (gS rfl (gS rfl (gS rfl g0))))) (gS rfl (gS rfl (gS rfl g0))) (gS rfl (gS rfl g0)) (gS rfl g0) g0 (fun g => ?_)
          refine c_block (fun Q44 hQ44 => ?_)
          refine fg5 2 7 49 50 51 (gS rfl (gS rfl (gS rfl (gS rfl g0)))) (gS rfl (gS rfl (gS rfl g0))) (gS rfl (gS rfl g0)) (gS rfl g0) g0 (fun g => ?_)
          refine c_loop (fun k_ s_ W45 => ∃ (g : Nat → Value) (n : Nat), s_ = (upd (upd (upd (upd (upd g 2 (.pointer (some ⟨b2, 0, none⟩))) 7 (.pointer (some ⟨b41, 0, none⟩))) 49 (.slice (some ⟨b4, 0, none⟩) (m3 + 1) (8 * l.length + 2176))) 50 (.int .i64 (m3 + 1 : Nat))) 51 (.int .i64 (n : Nat))) ∧ m3 + 1 - n = k_ ∧ (n ≤ m3 + 1) ∧ Blk W45 b41 (sCells (kAbs ((kPad l).take n) 0 (fun _ => false))) ∧ Ch (fun k => k = b41) w41 W45) (m3 + 1 - (0)) ?_ ?_
          · exact ⟨g, 0, rfl, rfl, Nat.zero_le _, k41, Ch.refl _ _⟩
          · skip
            intro k_ s_ W45 hI K45 hK45
            obtain ⟨g, n, rfl, rfl, hn, nk41, V45⟩ := hI
            replace k2 := k2.ch V45 (by omega)
            replace k4 := k4.ch V45 (by omega)
            replace hW := hW.ch V45 (by first | omega | (intro b hb; omega))
            replace k41 := nk41
            replace U := U.cc V45 (by intro b hb; first | exact hb.elim | omega | (simp at hb ⊢; omega))
            refine c_seq (fun K46 hK46 => ?_)
            refine c_region ?_
            refine l_step (y_lss (et g0 rfl) (et (gS rfl g0) rfl)) ?_
            refine l_nil ?_
            refine hK46 _ _ ?_
            refine c_seq (fun K47 hK47 => ?_)
            refine c_cond (et g0 rfl) (fun cB4 => ?_) (fun cB4 => ?_)
            · skip
              
              have hnl : n < m3 + 1 := by have := of_decide_eq_true cB4; omega
              have hnp : n < (kPad l).length := by omega
              refine c_skip ?_
              refine hK47 _ _ ?_
              refine fg5 2 7 49 50 51 (gS rfl (gS rfl (gS rfl (gS rfl (gS rfl g0))))) (gS rfl (gS rfl (gS rfl (gS rfl g0)))) (gS rfl (gS rfl (gS rfl g0))) (gS rfl (gS rfl g0)) (gS rfl g0) (fun g => ?_)
              refine c_seq (fun K49 hK49 => ?_)
              refine c_block (fun Q50 hQ50 => ?_)
              refine c_seq (fun K51 hK51 => ?_)
              refine c_region ?_
              refine l_step (y_moveV (et g0 rfl)) ?_
              refine l_step (y_idxS Hvaa.underlying215 sz_4 (et (gS rfl (gS rfl (gS rfl g0))) rfl) (et (gS rfl g0) rfl) ?_ ?_) ?_
              omega
              omega
              refine l_step (y_load1 one_4 (et g0 rfl) (at1 (k4.cell (by have h9 := hB.get n _ (List.getElem?_eq_getElem hnp); simp only [Nat.zero_add, Nat.mul_one, Int.toNat_natCast]; exact h9)))) ?_
              refine l_step (y_assignV (et (gS rfl (gS rfl g0)) rfl)) ?_
              refine l_step (y_assignV (et (gS rfl g0) rfl)) ?_
              refine l_nil ?_
              refine hK51 _ _ ?_
              refine fg7 2 7 49 50 51 8 9 (gS rfl (gS rfl (gS rfl (gS rfl (gS rfl (gS rfl (gS rfl (gS rfl (gS rfl g0))))))))) (gS rfl (gS rfl (gS rfl (gS rfl (gS rfl (gS rfl (gS rfl (gS rfl g0)))))))) (gS rfl (gS rfl (gS rfl (gS rfl (gS rfl (gS rfl (gS rfl g0))))))) (gS rfl (gS rfl (gS rfl (gS rfl (gS rfl (gS rfl g0)))))) (gS rfl (gS rfl (gS rfl (gS rfl (gS rfl g0))))) (gS rfl g0) g0 (fun g => ?_)
              refine c_seq (fun K52 hK52 => ?_)
              refine c_region ?_
              refine l_step (y_moveV (et (gS rfl g0) rfl)) ?_
              refine l_step (y_rem (et g0 rfl) rfl (by decide) (remN (b := 1088))) ?_
              refine l_step (y_moveV (et (gS rfl (gS rfl (gS rfl g0))) rfl)) ?_
              refine l_step (y_rem (et g0 rfl) rfl (by decide) (remN (b := 1088))) ?_
              refine l_step (y_idxA Hvaa.underlying383 sz_4 (et (gS rfl (gS rfl (gS rfl (gS rfl (gS rfl (gS rfl (gS rfl (gS rfl (gS rfl g0))))))))) rfl) (et g0 rfl) ?_ ?_) ?_
              omega
              omega
              refine l_step (y_load1 one_4 (et g0 rfl) (at1 (k41.cell (by have h9 := sc_get (s := (kAbs ((kPad l).take n) 0 (fun _ => false))) (i := n % 1088) (by omega); simp only [Nat.zero_add, Nat.mul_one, Int.toNat_natCast]; exact h9)))) ?_
              refine l_step (y_moveV (et (gS rfl (gS rfl (gS rfl (gS rfl (gS rfl (gS rfl g0)))))) rfl)) ?_
              refine l_step (y_neqB Hvaa.underlying4 (et (gS rfl g0) rfl) (et g0 rfl)) ?_
              refine l_step (y_idxA Hvaa.underlying383 sz_4 (et (gS rfl (gS rfl (gS rfl (gS rfl (gS rfl (gS rfl (gS rfl (gS rfl (gS rfl (gS rfl (gS rfl (gS rfl (gS rfl g0))))))))))))) rfl) (et (gS rfl (gS rfl (gS rfl (gS rfl (gS rfl (gS rfl g0)))))) rfl) ?_ ?_) ?_
              omega
              omega
              refine l_effN (e_store sz_4 (et g0 rfl) (cellsV (et (gS rfl g0) rfl) rfl) rfl (by intro v hv; simp at hv; subst hv; rfl) k41 (by (rw [sc_size]; simp only [Int.toNat_natCast]; omega))) (fun v53 w53 h53 => ?_)
              obtain ⟨rfl, x53⟩ := h53
              replace k2 := k2.ch x53.ch (by omega)
              replace k4 := k4.ch x53.ch (by omega)
              replace hW := hW.ch x53.ch (by first | omega | (first | omega | (intro b hb; omega)))
              replace k41 := x53.blk
              replace U := U.st x53 f41
              replace V45 := V45.st x53 (by omega)
              have h9 := k41
              simp only [Nat.zero_add, Nat.mul_one, Int.toNat_natCast] at h9
              replace k41 : Blk w53 b41 (sCells (fun i => if i = n % 1088 then (kAbs ((kPad l).take n) 0 (fun _ => false)) i ^^ (kPad l)[n] else (kAbs ((kPad l).take n) 0 (fun _ => false)) i)) := by
                rw [← take_put, ← sc_set (by omega), ← neq_xor2]
                exact h9
              refine l_nil ?_
              refine hK52 _ _ ?_
              refine fg6 2 7 49 50 51 8 (gS rfl (gS rfl (gS rfl (gS rfl (gS rfl (gS rfl (gS rfl (gS rfl (gS rfl (gS rfl (gS rfl (gS rfl (gS rfl (gS rfl (gS rfl g0))))))))))))))) (gS rfl (gS rfl (gS rfl (gS rfl (gS rfl (gS rfl (gS rfl (gS rfl (gS rfl (gS rfl (gS rfl (gS rfl (gS rfl (gS rfl g0)))))))))))))) (gS rfl (gS rfl (gS rfl (gS rfl (gS rfl (gS rfl (gS rfl (gS rfl (gS rfl (gS rfl (gS rfl (gS rfl (gS rfl g0))))))))))))) (gS rfl (gS rfl (gS rfl (gS rfl (gS rfl (gS rfl (gS rfl (gS rfl (gS rfl (gS rfl (gS rfl (gS rfl g0)))))))))))) (gS rfl (gS rfl (gS rfl (gS rfl (gS rfl (gS rfl (gS rfl (gS rfl (gS rfl (gS rfl (gS rfl g0))))))))))) (gS rfl (gS rfl (gS rfl (gS rfl (gS rfl (gS rfl (gS rfl (gS rfl (gS rfl (gS rfl g0)))))))))) (fun g => ?_)
              refine c_seq (fun K54 hK54 => ?_)
              refine c_region ?_
              refine l_step (y_moveV (et g0 rfl)) ?_
              refine l_step (y_rem (et g0 rfl) rfl (by decide) (remN (b := 1088))) ?_
              refine l_step (y_eql (et g0 rfl) rfl) ?_
              refine l_nil ?_
              refine hK54 _ _ ?_
              refine fg6 2 7 49 50 51 67 (gS rfl (gS rfl (gS rfl (gS rfl (gS rfl (gS rfl (gS rfl (gS rfl g0)))))))) (gS rfl (gS rfl (gS rfl (gS rfl (gS rfl (gS rfl (gS rfl g0))))))) (gS rfl (gS rfl (gS rfl (gS rfl (gS rfl (gS rfl g0)))))) (gS rfl (gS rfl (gS rfl (gS rfl (gS rfl g0))))) (gS rfl (gS rfl (gS rfl (gS rfl g0)))) g0 (fun g => ?_)
              refine c_cond (et g0 rfl) (fun cB5 => ?_) (fun cB5 => ?_)
              · skip
                
                have h87 : n % 1088 = 1087 := by have := of_decide_eq_true cB5; omega
                refine c_region ?_
                refine l_eff (e_callV cal_329 (aC (et (gS rfl (gS rfl (gS rfl (gS rfl g0)))) rfl) aN) (km_F k41)) (fun v56 w56 h56 => ?_)
                obtain ⟨rfl, kt56, c56⟩ := h56
                replace k2 := k2.ch c56 (by omega)
                replace k4 := k4.ch c56 (by omega)
                replace hW := hW.ch c56 (by first | omega | (intro b hb; omega))
                replace k41 := kt56
                replace V45 := V45.cc c56 (by intro b hb; first | omega | (simp at hb ⊢; omega) | (have := hOo.lim b hb.symm; omega))
                replace U := U.cc c56 (by intro b hb; first | exact hb ▸ f41 | omega)
                replace k41 : Blk w56 b41 (sCells (kAbs ((kPad l).take (n + 1)) 0 (fun _ => false))) := by rw [kAbs_snoc _ _ hnp]; unfold kTake; rw [if_pos h87]; exact k41
                refine l_nil ?_
                refine hQ50 _ _ _ (in_normal ?_)
                refine hK49 _ _ ?_
                refine fg5 2 7 49 50 51 (gS rfl (gS rfl (gS rfl (gS rfl (gS rfl (gS rfl g0)))))) (gS rfl (gS rfl (gS rfl (gS rfl (gS rfl g0))))) (gS rfl (gS rfl (gS rfl (gS rfl g0)))) (gS rfl (gS rfl (gS rfl g0))) (gS rfl (gS rfl g0)) (fun g => ?_)
                refine c_region ?_
                refine l_step (y_add (et g0 rfl) rfl (addIN (y := 1) ?_)) ?_
                omega
                refine l_step (y_moveV (et g0 rfl)) ?_
                refine l_nil ?_
                refine fK5 2 7 49 50 51 (gS rfl (gS rfl (gS rfl (gS rfl (gS rfl (gS rfl g0)))))) (gS rfl (gS rfl (gS rfl (gS rfl (gS rfl g0))))) (gS rfl (gS rfl (gS rfl (gS rfl g0)))) (gS rfl (gS rfl (gS rfl g0))) g0 (fun g => ?_)
                exact hK45 (m3 + 1 - ((n + 1))) _ _ (by omega) ⟨g, (n + 1), rfl, rfl, by omega, k41, V45⟩
              · skip
                
                have h87 : ¬ n % 1088 = 1087 := by have := of_decide_eq_false cB5; omega
                replace k41 : Blk w53 b41 (sCells (kAbs ((kPad l).take (n + 1)) 0 (fun _ => false))) := by rw [kAbs_snoc _ _ hnp]; unfold kTake; rw [if_neg h87]; exact k41
                refine c_skip ?_
                refine hQ50 _ _ _ (in_normal ?_)
                refine hK49 _ _ ?_
                refine fg5 2 7 49 50 51 (gS rfl (gS rfl (gS rfl (gS rfl (gS rfl g0))))) (gS rfl (gS rfl (gS rfl (gS rfl g0)))) (gS rfl (gS rfl (gS rfl g0))) (gS rfl (gS rfl g0)) (gS rfl g0) (fun g => ?_)
                refine c_region ?_
                refine l_step (y_add (et g0 rfl) rfl (addIN (y := 1) ?_)) ?_
                omega
                refine l_step (y_moveV (et g0 rfl)) ?_
                refine l_nil ?_
                refine fK5 2 7 49 50 51 (gS rfl (gS rfl (gS rfl (gS rfl (gS rfl (gS rfl g0)))))) (gS rfl (gS rfl (gS rfl (gS rfl (gS rfl g0))))) (gS rfl (gS rfl (gS rfl (gS rfl g0)))) (gS rfl (gS rfl (gS rfl g0))) g0 (fun g => ?_)
                exact hK45 (m3 + 1 - ((n + 1))) _ _ (by omega) ⟨g, (n + 1), rfl, rfl, by omega, k41, V45⟩
            · skip
              
              have hnl : n = m3 + 1 := by have := of_decide_eq_false cB4; omega
              subst hnl
              rw [← hpl, List.take_length] at k41
              refine c_exit ?_
              refine hQ44 _ _ _ (in_exit ?_)
              refine hK42 _ _ ?_
              refine fg2 2 7 (gS rfl (gS rfl (gS rfl (gS rfl (gS rfl g0))))) (gS rfl (gS rfl (gS rfl (gS rfl g0)))) (fun g => ?_)
              refine c_seq (fun K57 hK57 => ?_)
              refine c_region ?_
              refine l_eff (e_alloc zr_27) (fun v58 w58 h58 => ?_)
              obtain ⟨b58, rfl, n58⟩ := h58
              have d2_58 : b2 < b58 := Nat.lt_of_lt_of_le k2.lt n58.fresh
              have d4_58 : b4 < b58 := Nat.lt_of_lt_of_le k4.lt n58.fresh
              have d41_58 : b41 < b58 := Nat.lt_of_lt_of_le k41.lt n58.fresh
              have f58 : w.heap.size ≤ b58 := Nat.le_trans U.size n58.fresh
              replace k2 := k2.up n58.up
              replace k4 := k4.up n58.up
              replace k41 := k41.up n58.up
              replace hW := hW.up n58.up
              replace U := U.tr n58.up
              have k58 := n58.blk
              replace k58 : Blk w58 b58 (bL (oB (kAbs (kPad l) 0 (fun _ => false)) 0)).toArray := by rw [← oB_zero]; exact k58
              obtain ⟨S, hS⟩ : ∃ S, S = kAbs (kPad l) 0 (fun _ => false) := ⟨_, rfl⟩
              rw [← hS] at k58 k41
              refine l_nil ?_
              refine hK57 _ _ ?_
              refine c_seq (fun K59 hK59 => ?_)
              refine c_seq (fun K60 hK60 => ?_)
              refine c_region ?_
              refine l_step y_assignC ?_
              refine l_nil ?_
              refine hK60 _ _ ?_
              refine c_block (fun Q61 hQ61 => ?_)
              refine fg4 2 7 10 11 (gS rfl (gS rfl (gS rfl g0))) (gS rfl (gS rfl g0)) (gS rfl g0) g0 (fun g => ?_)
              refine c_loop (fun k_ s_ W62 => ∃ (g : Nat → Value) (i : Nat), s_ = (upd (upd (upd (upd g 2 (.pointer (some ⟨b2, 0, none⟩))) 7 (.pointer (some ⟨b41, 0, none⟩))) 10 (.pointer (some ⟨b58, 0, none⟩))) 11 (.int .i64 (i : Nat))) ∧ 256 - i = k_ ∧ (i ≤ 256) ∧ Blk W62 b58 ((bL (oB S i)).toArray) ∧ Ch (fun k => k = b58) w58 W62) (256 - (0)) ?_ ?_
              · exact ⟨g, 0, rfl, rfl, Nat.zero_le _, k58, Ch.refl _ _⟩
              · skip
                intro k_ s_ W62 hI K62 hK62
                obtain ⟨g, i, rfl, rfl, hi, nk58, V62⟩ := hI
                replace k2 := k2.ch V62 (by omega)
                replace k4 := k4.ch V62 (by omega)
                replace k41 := k41.ch V62 (by omega)
                replace hW := hW.ch V62 (by first | omega | (intro b hb; omega))
                replace k58 := nk58
                replace U := U.cc V62 (by intro b hb; first | exact hb.elim | omega | (simp at hb ⊢; omega))
                refine c_seq (fun K63 hK63 => ?_)
                refine c_seq (fun K64 hK64 => ?_)
                refine c_region ?_
                refine l_step (y_moveV (et g0 rfl)) ?_
                refine l_step (y_lss (et g0 rfl) rfl) ?_
                refine l_nil ?_
                refine hK64 _ _ ?_
                refine fg5 2 7 10 11 71 (gS rfl (gS rfl (gS rfl (gS rfl (gS rfl g0))))) (gS rfl (gS rfl (gS rfl (gS rfl g0)))) (gS rfl (gS rfl (gS rfl g0))) (gS rfl (gS rfl g0)) g0 (fun g => ?_)
                refine c_cond (et g0 rfl) (fun cB6 => ?_) (fun cB6 => ?_)
                · skip
                  
                  have hil : i < 256 := by have := of_decide_eq_true cB6; omega
                  refine c_skip ?_
                  refine hK63 _ _ ?_
                  refine fg4 2 7 10 11 (gS rfl (gS rfl (gS rfl (gS rfl g0)))) (gS rfl (gS rfl (gS rfl g0))) (gS rfl (gS rfl g0)) (gS rfl g0) (fun g => ?_)
                  refine c_seq (fun K66 hK66 => ?_)
                  refine c_block (fun Q67 hQ67 => ?_)
                  refine c_seq (fun K68 hK68 => ?_)
                  refine c_region ?_
                  refine l_step (y_moveV (et g0 rfl)) ?_
                  refine l_step (y_idxA Hvaa.underlying383 sz_4 (et (gS rfl (gS rfl (gS rfl g0))) rfl) (et g0 rfl) ?_ ?_) ?_
                  omega
                  omega
                  refine l_step (y_load1 one_4 (et g0 rfl) (at1 (k41.cell (by have h9 := sc_get (s := S) (i := i) (by omega); simp only [Nat.zero_add, Nat.mul_one, Int.toNat_natCast]; exact h9)))) ?_
                  refine l_nil ?_
                  refine hK68 _ _ ?_
                  refine fg5 2 7 10 11 76 (gS rfl (gS rfl (gS rfl (gS rfl (gS rfl (gS rfl g0)))))) (gS rfl (gS rfl (gS rfl (gS rfl (gS rfl g0))))) (gS rfl (gS rfl (gS rfl (gS rfl g0)))) (gS rfl (gS rfl (gS rfl g0))) g0 (fun g => ?_)
                  refine c_cond (et g0 rfl) (fun cB7 => ?_) (fun cB7 => ?_)
                  · skip
                    
                    have hsi : S i = true := cB7
                    obtain ⟨kb, hkb⟩ : ∃ kb, kb = kByte (fun j => if j < i then S j else false) (i / 8) := ⟨_, rfl⟩
                    have hkl : kb < 256 := by rw [hkb]; exact kByte_lt _ _
                    have hkc : (bL (oB S i)).toArray[i / 8]? = some (.int .u8 (kb : Nat)) := by
                      have h9 := bL_getA (l := oB S i) (i := i / 8) (by rw [oB_len]; omega)
                      rw [oB_get (by omega), ← hkb] at h9
                      exact h9
                    obtain ⟨pw, hpw⟩ : ∃ pw, pw = 1 * 2 ^ (i % 8) % 256 := ⟨_, rfl⟩
                    have hpl : pw < 256 := by rw [hpw]; exact Nat.mod_lt _ (by decide)
                    refine c_draw Up 9 [(0, true), (1, true), (2, true), (3, true), (4, true), (5, true), (6, true), (7, true), (8, true), (9, false)] (by kernel_rfl) (fun w70 hu => ⟨Up.refl _, ?_⟩)
                    replace k2 := k2.up hu
                    replace k4 := k4.up hu
                    replace k41 := k41.up hu
                    replace k58 := k58.up hu
                    replace hW := hW.up hu
                    replace U := U.tr hu
                    replace V62 := V62.tr hu
                    have SU := Up.refl w70
                    refine p_step (by exact rfl) (y_moveV (et (gS rfl g0) rfl)) ?_
                    refine p_step (by exact rfl) (y_quo (et g0 rfl) rfl (by decide) (quoI (b := 8) ?_)) ?_
                    omega
                    refine p_step (by exact rfl) (y_idxA Hvaa.underlying27 sz_5 (et (gS rfl (gS rfl (gS rfl (gS rfl g0)))) rfl) (et g0 rfl) ?_ ?_) ?_
                    omega
                    omega
                    refine p_step (by exact rfl) (y_load1 one_5 (et g0 rfl) (atS (k58.cell (by simp only [Nat.zero_add, Nat.mul_one, Int.toNat_natCast]; exact hkc)))) ?_
                    refine p_step (by exact rfl) (y_moveV (et (gS rfl (gS rfl (gS rfl (gS rfl (gS rfl g0))))) rfl)) ?_
                    refine p_step (by exact rfl) (y_rem (et g0 rfl) rfl (by decide) (remN (b := 8))) ?_
                    refine p_step (by exact rfl) (y_shl rfl (et g0 rfl) ?_ ((shl8N ?_).trans (castE hpw.symm))) ?_
                    omega
                    omega
                    refine p_step (by exact rfl) (y_or uk8 (et (gS rfl (gS rfl (gS rfl g0))) rfl) (et g0 rfl) ?_ ?_) ?_
                    exact hkl
                    exact hpl
                    refine p_step (by exact rfl) (y_idxA Hvaa.underlying27 sz_5 (et (gS rfl (gS rfl (gS rfl (gS rfl (gS rfl (gS rfl (gS rfl (gS rfl (gS rfl (gS rfl g0)))))))))) rfl) (et (gS rfl (gS rfl (gS rfl (gS rfl (gS rfl (gS rfl g0)))))) rfl) ?_ ?_) ?_
                    omega
                    omega
                    refine p_effN (by exact rfl) (e_store sz_5 (et g0 rfl) (cellsV (et (gS rfl g0) rfl) rfl) rfl (by intro v hv; simp at hv; subst hv; rfl) k58 (by (rw [List.size_toArray, length_bL, oB_len]; simp only [Int.toNat_natCast]; omega))) (fun v71 w71 h71 => ?_)
                    obtain ⟨rfl, x71⟩ := h71
                    replace k2 := k2.ch x71.ch (by omega)
                    replace k4 := k4.ch x71.ch (by omega)
                    replace k41 := k41.ch x71.ch (by omega)
                    replace hW := hW.ch x71.ch (by first | omega | (first | omega | (intro b hb; omega)))
                    replace k58 := x71.blk
                    replace U := U.st x71 f58
                    replace V62 := V62.st x71 (by omega)
                    refine ⟨.inl rfl, ?_⟩
                    have h9 := k58
                    simp only [Nat.zero_add, Nat.mul_one, Int.toNat_natCast] at h9
                    replace k58 : Blk w71 b58 (bL (oB S (i + 1))).toArray := by rw [← oB_set hil hsi, ← bL_setA, ← hkb, ← hpw]; exact h9
                    refine p_nil ?_
                    refine hQ67 _ _ _ (in_normal ?_)
                    refine hK66 _ _ ?_
                    refine fg4 2 7 10 11 (gS rfl (gS rfl (gS rfl (gS rfl (gS rfl (gS rfl (gS rfl (gS rfl (gS rfl (gS rfl (gS rfl (gS rfl (gS rfl g0))))))))))))) (gS rfl (gS rfl (gS rfl (gS rfl (gS rfl (gS rfl (gS rfl (gS rfl (gS rfl (gS rfl (gS rfl (gS rfl g0)))))))))))) (gS rfl (gS rfl (gS rfl (gS rfl (gS rfl (gS rfl (gS rfl (gS rfl (gS rfl (gS rfl (gS rfl g0))))))))))) (gS rfl (gS rfl (gS rfl (gS rfl (gS rfl (gS rfl (gS rfl (gS rfl (gS rfl (gS rfl g0)))))))))) (fun g => ?_)
                    refine c_region ?_
                    refine l_step (y_moveV (et g0 rfl)) ?_
                    refine l_step (y_add (et g0 rfl) rfl (addIN (y := 1) ?_)) ?_
                    omega
                    refine l_step (y_assignV (et g0 rfl)) ?_
                    refine l_nil ?_
                    refine fK4 2 7 10 11 (gS rfl (gS rfl (gS rfl (gS rfl (gS rfl (gS rfl g0)))))) (gS rfl (gS rfl (gS rfl (gS rfl (gS rfl g0))))) (gS rfl (gS rfl (gS rfl (gS rfl g0)))) g0 (fun g => ?_)
                    exact hK62 (256 - ((i + 1))) _ _ (by omega) ⟨g, (i + 1), rfl, rfl, by omega, k58, V62⟩
                  · skip
                    
                    have hsi : S i = false := by simpa using cB7
                    rw [oB_skip hsi] at k58
                    refine c_skip ?_
                    refine hQ67 _ _ _ (in_normal ?_)
                    refine hK66 _ _ ?_
                    refine fg4 2 7 10 11 (gS rfl (gS rfl (gS rfl (gS rfl g0)))) (gS rfl (gS rfl (gS rfl g0))) (gS rfl (gS rfl g0)) (gS rfl g0) (fun g => ?_)
                    refine c_region ?_
                    refine l_step (y_moveV (et g0 rfl)) ?_
                    refine l_step (y_add (et g0 rfl) rfl (addIN (y := 1) ?_)) ?_
                    omega
                    refine l_step (y_assignV (et g0 rfl)) ?_
                    refine l_nil ?_
                    refine fK4 2 7 10 11 (gS rfl (gS rfl (gS rfl (gS rfl (gS rfl (gS rfl g0)))))) (gS rfl (gS rfl (gS rfl (gS rfl (gS rfl g0))))) (gS rfl (gS rfl (gS rfl (gS rfl g0)))) g0 (fun g => ?_)
                    exact hK62 (256 - ((i + 1))) _ _ (by omega) ⟨g, (i + 1), rfl, rfl, by omega, k58, V62⟩
                · skip
                  
                  have hil : i = 256 := by have := of_decide_eq_false cB6; omega
                  subst hil
                  refine c_exit ?_
                  refine hQ61 _ _ _ (in_exit ?_)
                  refine hK59 _ _ ?_
                  refine fg2 2 10 (gS rfl (gS rfl (gS rfl (gS rfl g0)))) (gS rfl (gS rfl g0)) (fun g => ?_)
                  refine c_seq (fun K72 hK72 => ?_)
                  refine c_region ?_
                  refine l_step (y_loadB agg_27 sz_27 (et g0 rfl) (by rw [List.size_toArray, length_bL, oB_len]) (at1B k58)) ?_
                  refine l_effN (e_store sz_27 (et (gS rfl (gS rfl g0)) rfl) (cellsV (et g0 rfl) rfl) (by rw [length_bL, oB_len]) (by exact one_bL _) k2 (by exact Nat.le_of_ble_eq_true rfl)) (fun v73 w73 h73 => ?_)
                  obtain ⟨rfl, x73⟩ := h73
                  replace k4 := k4.ch x73.ch (by omega)
                  replace k41 := k41.ch x73.ch (by omega)
                  replace k58 := k58.ch x73.ch (by omega)
                  replace hW := hW.ch x73.ch (by first | omega | (first | omega | (intro b hb; omega)))
                  replace k2 := x73.blk.full (by rw [length_bL, oB_len]; rfl)
                  replace U := U.st x73 f2
                  refine l_nil ?_
                  refine hK72 _ _ ?_
                  refine fg1 2 (gS rfl (gS rfl g0)) (fun g => ?_)
                  refine c_ret ?_
                  refine ret1 rfl (res_blk agg_27 sz_27 (et g0 rfl) (by rw [List.size_toArray, length_bL, oB_len]) k2) ?_
                  exact ⟨by show _ = bV (be 32 (kecN l)); rw [be_kec, kecL, ← hS, ← oB_full]; rfl, U⟩
theorem kec_spec : KSum := fun w H v l hF hB hl => by
  have hW := hB.wv hF
  obtain ⟨a, c, rfl, _, _⟩ := hW.val
  exact km_Sum hW (Nat.le_refl _) hl
end Go.Proofs.YgvaawGreat
