import Derived.Test.YgvaawGreatKit7
import Derived.Laws.StructEq
import Derived.Laws.BytesString
set_option maxRecDepth 100000
set_option linter.unusedSimpArgs false
set_option linter.unusedVariables false
namespace Go.Proofs.YgvaawGreat
open Go
/-! Arrays of numbers held to one another. -/
def kval (k : IntKind) (d : Nat) : Value := .int k d
theorem all_range_nat : ∀ (xs ys : List Nat), xs.length = ys.length → ((List.range xs.length).all fun i => xs.getD i 0 == ys.getD i 0) = (xs == ys)
  | [], [], _ => rfl
  | x :: xs, y :: ys, h => by
    have ih := all_range_nat xs ys (by simpa using h)
    rw [List.length_cons, List.range_succ_eq_map, List.all_cons, List.all_map]
    simp only [List.getD_cons_zero, Function.comp_def, List.getD_cons_succ, ih]
    simp [List.cons_beq_cons]
  | [], _ :: _, h => by simp at h
  | _ :: _, [], h => by simp at h
theorem run_equalIn_nats (w : World) (d T e n : Nat) (k : IntKind) (ht : Hvaa.prog.underlying T = some (.array n e)) (he : Hvaa.prog.underlying e = some (.int k)) (hsz : Sz e 1) (xs ys : List Nat) (hx : xs.length = n) (hy : ys.length = n) :
    (Op.equalIn (d + 2) T (.agg (xs.map (kval k)).toArray) (.agg (ys.map (kval k)).toArray)).run Hvaa.prog w = .ok (xs == ys) w := by
  rw [← all_range_nat xs ys (hx.trans hy.symm), hx, List.range_eq_range', Op.equalIn]
  simp only [Sem.run_bind, run_underlying ht, Result.andThen_ok, run_sizeOf hsz, Std.Legacy.Range.forIn_eq_forIn_range', Std.Legacy.Range.size, Nat.sub_zero, Nat.add_sub_cancel, Nat.div_one]
  have hl : ∀ i ∈ List.range' 0 n 1, i < n := fun i hi => by simpa using (List.mem_range'_1.1 hi).2
  generalize List.range' 0 n 1 = l at hl ⊢
  induction l with
  | nil => simp
  | cons i l ih =>
    have hi : i < n := hl i (by simp)
    have px : (part e (xs.map (kval k)).toArray (i * 1)).run Hvaa.prog w = .ok (kval k (xs.getD i 0)) w := by
      simp [part, isAgg, run_underlying he, List.getD, List.getElem?_eq_getElem (show i < xs.length by omega)]
    have py : (part e (ys.map (kval k)).toArray (i * 1)).run Hvaa.prog w = .ok (kval k (ys.getD i 0)) w := by
      simp [part, isAgg, run_underlying he, List.getD, List.getElem?_eq_getElem (show i < ys.length by omega)]
    have pe : (Op.equalIn (d + 1) e (kval k (xs.getD i 0)) (kval k (ys.getD i 0))).run Hvaa.prog w = .ok (xs.getD i 0 == ys.getD i 0) w := by
      rw [kval, kval, run_equalIn_int w d e k k _ _ he]
      congr 1
      rw [Bool.eq_iff_iff]
      simp
      omega
    simp only [List.forIn_cons, Sem.run_bind, px, py, pe, Result.andThen_ok, List.all_cons]
    cases hb : (xs.getD i 0 == ys.getD i 0)
    · simp
    · simp only [Bool.not_true, Bool.false_eq_true, if_false, Sem.run_pure, Result.andThen_ok, Bool.true_and]
      exact ih fun j hj => hl j (by simp [hj])
def NoGuard (T : Nat) : Prop := Hvaa.prog.eqGuardType Hvaa.prog.depth T = false
section
variable {S : World → Prop} {n : Nat} {s : Nat → Value} {d : Option Nat} {ty : TypeId} {pos : String} {af : Array Edge} {g : Option (Nat × Bool)}
theorem y_eqlK {x y : Operand} {T T' m e : Nat} {k : IntKind} {xs ys : List Nat} (hU : Hvaa.prog.underlying T = some (.array m e)) (he : Hvaa.prog.underlying e = some (.int k)) (hs : Sz e 1) (hg : NoGuard T) (hl : xs.length = m) (hl' : ys.length = m)
    (hx : ev n s x = .agg (xs.map (kval k)).toArray) (hy : ev n s y = .agg (ys.map (kval k)).toArray) : Yv S n s ⟨d, .binOp .eql T x y T', ty, pos, af, g⟩ (.bool (decide (xs = ys))) := fun w _ => by
  have h1 := run_eqGuard_agg (P := Hvaa.prog) w .eql T x y (xs.map (kval k)).toArray (ys.map (kval k)).toArray hg
  have h2 : (binOp .eql T (.agg (xs.map (kval k)).toArray) (.agg (ys.map (kval k)).toArray)).run Hvaa.prog w = .ok (.bool (xs == ys)) w := by
    rw [run_eql_struct, run_equalIn_nats w 9998 T e m k hU he hs xs ys hl hl']
    rfl
  have e3 : (xs == ys) = decide (xs = ys) := by rw [Bool.eq_iff_iff]; simp
  rw [e3] at h2
  simp [execOp, hx, hy, h1, h2]
theorem y_neqK {x y : Operand} {T T' m e : Nat} {k : IntKind} {xs ys : List Nat} (hU : Hvaa.prog.underlying T = some (.array m e)) (he : Hvaa.prog.underlying e = some (.int k)) (hs : Sz e 1) (hg : NoGuard T) (hl : xs.length = m) (hl' : ys.length = m)
    (hx : ev n s x = .agg (xs.map (kval k)).toArray) (hy : ev n s y = .agg (ys.map (kval k)).toArray) : Yv S n s ⟨d, .binOp .neq T x y T', ty, pos, af, g⟩ (.bool (decide (xs ≠ ys))) := fun w _ => by
  have h1 := run_eqGuard_agg (P := Hvaa.prog) w .neq T x y (xs.map (kval k)).toArray (ys.map (kval k)).toArray hg
  have h2 : (binOp .neq T (.agg (xs.map (kval k)).toArray) (.agg (ys.map (kval k)).toArray)).run Hvaa.prog w = .ok (.bool (!(xs == ys))) w := by
    rw [run_neq_struct, run_equalIn_nats w 9998 T e m k hU he hs xs ys hl hl']
    rfl
  have e3 : (!(xs == ys)) = decide (xs ≠ ys) := by rw [Bool.eq_iff_iff]; simp
  rw [e3] at h2
  simp [execOp, hx, hy, h1, h2]
end
theorem bL_k (l : List Nat) : bL l = l.map (kval .u8) := rfl
theorem uL_k (l : List Nat) : uL l = l.map (kval .u64) := rfl
def A160 : Nat := 1461501637330902918203684832716283019655932542976
theorem A160_pow : A160 = 256 ^ 20 := by decide
theorem be_inj {k a b : Nat} (ha : a < 256 ^ k) (hb : b < 256 ^ k) : be k a = be k b ↔ a = b := by
  constructor
  · intro h
    have h1 := ofBE_be k a
    have h2 := ofBE_be k b
    rw [Nat.mod_eq_of_lt ha] at h1
    rw [Nat.mod_eq_of_lt hb] at h2
    rw [← h1, ← h2, h]
  · intro h; rw [h]
theorem limbs_inj {a b : Nat} (ha : a < W256) (hb : b < W256) : [limb a 0, limb a 1, limb a 2, limb a 3] = [limb b 0, limb b 1, limb b 2, limb b 3] ↔ a = b := by
  constructor
  · intro h
    simp only [List.cons.injEq, and_true] at h
    rw [← ofL_limb a ha, ← ofL_limb b hb, h.1, h.2.1, h.2.2.1, h.2.2.2]
  · intro h; rw [h]
theorem ng25 : NoGuard 25 := by show Hvaa.prog.eqGuardType Hvaa.prog.depth 25 = false; kernel_rfl
theorem ng28 : NoGuard 28 := by show Hvaa.prog.eqGuardType Hvaa.prog.depth 28 = false; kernel_rfl
theorem ng27 : NoGuard 27 := by show Hvaa.prog.eqGuardType Hvaa.prog.depth 27 = false; kernel_rfl
theorem ng65 : NoGuard 65 := by show Hvaa.prog.eqGuardType Hvaa.prog.depth 65 = false; kernel_rfl
section
variable {S : World → Prop} {n : Nat} {s : Nat → Value} {d : Option Nat} {ty : TypeId} {pos : String} {af : Array Edge} {g : Option (Nat × Bool)}
theorem dec_iff {p q : Prop} [Decidable p] [Decidable q] (h : p ↔ q) : Value.bool (decide p) = Value.bool (decide q) := by congr 1; rw [Bool.eq_iff_iff]; simpa using h
theorem y_eqlAddr {x y : Operand} {T' a b : Nat} (ha : a < A160) (hb : b < A160) (hx : ev n s x = aV a) (hy : ev n s y = aV b) : Yv S n s ⟨d, .binOp .eql 25 x y T', ty, pos, af, g⟩ (.bool (decide (a = b))) :=
  (y_eqlK Hvaa.underlying25 Hvaa.underlying5 sz_5 ng25 (length_be 20 a) (length_be 20 b) hx hy).to (dec_iff (be_inj (A160_pow ▸ ha) (A160_pow ▸ hb)))
theorem y_neqAddr {x y : Operand} {T' a b : Nat} (ha : a < A160) (hb : b < A160) (hx : ev n s x = aV a) (hy : ev n s y = aV b) : Yv S n s ⟨d, .binOp .neq 25 x y T', ty, pos, af, g⟩ (.bool (decide (a ≠ b))) :=
  (y_neqK Hvaa.underlying25 Hvaa.underlying5 sz_5 ng25 (length_be 20 a) (length_be 20 b) hx hy).to (dec_iff (not_congr (be_inj (A160_pow ▸ ha) (A160_pow ▸ hb))))
theorem y_eqlH {x y : Operand} {T' a b : Nat} (ha : a < W256) (hb : b < W256) (hx : ev n s x = hV a) (hy : ev n s y = hV b) : Yv S n s ⟨d, .binOp .eql 28 x y T', ty, pos, af, g⟩ (.bool (decide (a = b))) :=
  (y_eqlK Hvaa.underlying28 Hvaa.underlying5 sz_5 ng28 (length_be 32 a) (length_be 32 b) hx hy).to (dec_iff (be_inj (W256_pow ▸ ha) (W256_pow ▸ hb)))
theorem y_neqH {x y : Operand} {T' a b : Nat} (ha : a < W256) (hb : b < W256) (hx : ev n s x = hV a) (hy : ev n s y = hV b) : Yv S n s ⟨d, .binOp .neq 28 x y T', ty, pos, af, g⟩ (.bool (decide (a ≠ b))) :=
  (y_neqK Hvaa.underlying28 Hvaa.underlying5 sz_5 ng28 (length_be 32 a) (length_be 32 b) hx hy).to (dec_iff (not_congr (be_inj (W256_pow ▸ ha) (W256_pow ▸ hb))))
theorem y_eqlW {x y : Operand} {T' a b : Nat} (ha : a < W256) (hb : b < W256) (hx : ev n s x = wV a) (hy : ev n s y = wV b) : Yv S n s ⟨d, .binOp .eql 65 x y T', ty, pos, af, g⟩ (.bool (decide (a = b))) :=
  (y_eqlK Hvaa.underlying65 Hvaa.underlying26 sz_26 ng65 rfl rfl hx hy).to (dec_iff (limbs_inj ha hb))
theorem y_neqW {x y : Operand} {T' a b : Nat} (ha : a < W256) (hb : b < W256) (hx : ev n s x = wV a) (hy : ev n s y = wV b) : Yv S n s ⟨d, .binOp .neq 65 x y T', ty, pos, af, g⟩ (.bool (decide (a ≠ b))) :=
  (y_neqK Hvaa.underlying65 Hvaa.underlying26 sz_26 ng65 rfl rfl hx hy).to (dec_iff (not_congr (limbs_inj ha hb)))
end
/-! Bytes as strings. -/
def sV (l : List Nat) : Value := .string ⟨(l.map UInt8.ofNat).toArray⟩
theorem push_list : ∀ (ns : List Nat) (r : ByteArray), (ns.map (fun n : Nat => (n : Int))).foldl (fun r n => r.push (UInt8.ofNat n.toNat)) r = ⟨r.data ++ (ns.map UInt8.ofNat).toArray⟩
  | [], r => by simp
  | n :: ns, r => by
    rw [List.map_cons, List.foldl_cons, push_list ns]
    simp [ByteArray.push]
section
variable {S : World → Prop} {n : Nat} {s : Nat → Value} {d : Option Nat} {ty : TypeId} {pos : String} {af : Array Edge} {g : Option (Nat × Bool)}
theorem y_str {x : Operand} {T D : Nat} {v : Value} {l : List Nat} {s0 : Nat} (hT : Hvaa.prog.underlying T = some (.slice 5)) (hD : Hvaa.prog.underlying D = some .string) (hx : ev n s x = v) (hW : ∀ w, S w → WV s0 w v l) :
    Yv S n s ⟨d, .convert T D x, ty, pos, af, g⟩ (sV l) := fun w hw => by
  rcases (hW w hw).at' with ⟨h1, h2⟩ | ⟨b, o, c, h1, h2, h3, h4, h5⟩
  · obtain ⟨q, h1⟩ := h1
    subst h1 h2
    have h6 : (Conv.bytesToString (.slice q 0 0)).run Hvaa.prog w = .ok (sV []) w := by cases q <;> rfl
    simp [execOp, hx, run_convert_bytes_string w T D 5 q 0 0 hT Hvaa.underlying5 hD, h6]
  · have hc : (loadCells ⟨b, o, none⟩ l.length).run Hvaa.prog w = .ok (bL l).toArray w := by
      have := run_loadCells_list (P := Hvaa.prog) w ⟨b, o, none⟩ (bL l) (fun j v h => by rw [addr_add]; exact h5 j v h)
      rwa [length_bL] at this
    have e1 : (bL l).toArray = ((l.map (fun n : Nat => (n : Int))).map (Value.int .u8)).toArray := by rw [List.map_map]; rfl
    rw [e1] at hc
    have h6 := run_bytesToString (P := Hvaa.prog) w ⟨b, o, none⟩ l.length c _ hc
    rw [push_list] at h6
    simp [execOp, hx, h1, run_convert_bytes_string w T D 5 _ _ _ hT Hvaa.underlying5 hD, h6, sV]
theorem less_be : ∀ (l m : List Nat), Dig 256 l → Dig 256 m → l.length = m.length → Op.bytesLess (l.map UInt8.ofNat) (m.map UInt8.ofNat) = decide (ofBE l < ofBE m)
  | [], [], _, _, _ => by simp [Op.bytesLess]
  | a :: l, b :: m, hl, hm, hn => by
    have ih := less_be l m hl.tail hm.tail (by simpa using hn)
    have ha := hl.head
    have hb := hm.head
    have hn' : l.length = m.length := by simpa using hn
    have h1 := ofBE_append [a] l
    have h2 := ofBE_append [b] m
    simp only [List.singleton_append] at h1 h2
    have e1 : ofBE [a] = a := by simp [ofBE]
    have e2 : ofBE [b] = b := by simp [ofBE]
    rw [List.map_cons, List.map_cons, Op.bytesLess, ih, h1, h2, e1, e2, hn']
    have g1 : ofBE l < 256 ^ m.length := by rw [← hn']; exact ofBE_lt l hl.tail
    have g2 : ofBE m < 256 ^ m.length := ofBE_lt m hm.tail
    have u1 : (UInt8.ofNat a < UInt8.ofNat b) ↔ a < b := by
      rw [UInt8.lt_iff_toNat_lt, UInt8.toNat_ofNat', UInt8.toNat_ofNat', Nat.mod_eq_of_lt ha, Nat.mod_eq_of_lt hb]
    have u2 : (UInt8.ofNat a = UInt8.ofNat b) ↔ a = b := by
      constructor
      · intro h
        have := congrArg UInt8.toNat h
        rwa [UInt8.toNat_ofNat', UInt8.toNat_ofNat', Nat.mod_eq_of_lt ha, Nat.mod_eq_of_lt hb] at this
      · intro h; rw [h]
    generalize 256 ^ m.length = P at *
    rw [Bool.eq_iff_iff]
    simp only [Bool.or_eq_true, Bool.and_eq_true, decide_eq_true_eq, beq_iff_eq, u1, u2]
    rcases Nat.lt_trichotomy a b with h | h | h
    · have : (a + 1) * P ≤ b * P := Nat.mul_le_mul_right _ h
      rw [Nat.add_mul, Nat.one_mul] at this
      constructor
      · intro _; omega
      · intro _; exact .inl h
    · subst h
      constructor
      · intro h
        rcases h with h | h
        · omega
        · omega
      · intro h; right; exact ⟨rfl, by omega⟩
    · have : (b + 1) * P ≤ a * P := Nat.mul_le_mul_right _ h
      rw [Nat.add_mul, Nat.one_mul] at this
      constructor
      · intro hh
        rcases hh with hh | hh <;> omega
      · intro hh; omega
  | [], _ :: _, _, _, h => by simp at h
  | _ :: _, [], _, _, h => by simp at h
theorem str_inj {l m : List Nat} (hl : Dig 256 l) (hm : Dig 256 m) : l.map UInt8.ofNat = m.map UInt8.ofNat ↔ l = m := by
  constructor
  · intro h
    apply List.ext_getElem?
    intro i
    have h1 := congrArg (fun q => q[i]?) h
    simp only [List.getElem?_map] at h1
    cases hli : l[i]? with
    | none => rw [hli] at h1; cases hmi : m[i]? with
      | none => rfl
      | some y => rw [hmi] at h1; simp at h1
    | some x =>
      rw [hli] at h1
      cases hmi : m[i]? with
      | none => rw [hmi] at h1; simp at h1
      | some y =>
        rw [hmi] at h1
        simp only [Option.map_some, Option.some.injEq] at h1
        have hx := hl x (List.mem_of_getElem? hli)
        have hy := hm y (List.mem_of_getElem? hmi)
        have := congrArg UInt8.toNat h1
        rw [UInt8.toNat_ofNat', UInt8.toNat_ofNat', Nat.mod_eq_of_lt hx, Nat.mod_eq_of_lt hy] at this
        rw [this]
  · intro h; rw [h]
theorem y_sLss {x y : Operand} {T T' : Nat} {l m : List Nat} (hU : Hvaa.prog.underlying T = some .string) (hl : Dig 256 l) (hm : Dig 256 m) (hn : l.length = m.length) (hx : ev n s x = sV l) (hy : ev n s y = sV m) : Yv S n s ⟨d, .binOp .lss T x y T', ty, pos, af, g⟩ (.bool (decide (ofBE l < ofBE m))) := fun w _ => by
  simp [execOp, hx, hy, eqGuard, sV, binOp_string_lss, ByteArray.toList_eq, less_be l m hl hm hn]
theorem y_sGeq {x y : Operand} {T T' : Nat} {l m : List Nat} (hU : Hvaa.prog.underlying T = some .string) (hl : Dig 256 l) (hm : Dig 256 m) (hn : l.length = m.length) (hx : ev n s x = sV l) (hy : ev n s y = sV m) : Yv S n s ⟨d, .binOp .geq T x y T', ty, pos, af, g⟩ (.bool (decide (ofBE m ≤ ofBE l))) := fun w _ => by
  have e : (!decide (ofBE l < ofBE m)) = decide (ofBE m ≤ ofBE l) := by rw [Bool.eq_iff_iff]; simp
  simp [execOp, hx, hy, eqGuard, sV, binOp, Op.stringOp, ByteArray.toList_eq, less_be l m hl hm hn, e]
end
end Go.Proofs.YgvaawGreat
