import Derived.Test.YgvaawGreatEng
set_option linter.unusedSimpArgs false
set_option linter.unusedVariables false
namespace Go.Proofs.YgvaawGreat
open Go
/-! Facts on types. -/
def Sz (T k : Nat) : Prop := (Hvaa.prog.info? T).map (·.size) = some k
def Fld (T f k : Nat) : Prop := ∀ b o w, (Instr.fieldAt T (.pointer (some ⟨b, o, none⟩)) f).run Hvaa.prog w = .ok (.pointer (some ⟨b, o + k, none⟩)) w
def IsAgg (T : Nat) : Prop := ∀ w, (isAgg T).run Hvaa.prog w = .ok true w
def IsOne (T : Nat) : Prop := ∀ w, (isAgg T).run Hvaa.prog w = .ok false w
theorem run_sizeOf {T k : Nat} (h : Sz T k) (w : World) : (sizeOf T).run Hvaa.prog w = .ok k w := by
  unfold Sz at h
  cases hi : Hvaa.prog.info? T with
  | none => simp [hi] at h
  | some i => simp [hi] at h; simp [sizeOf, typeInfo, hi, h]
theorem addr_add (b o k : Nat) : (⟨b, o, none⟩ : Addr).add k = ⟨b, o + k, none⟩ := by
  unfold Addr.add; split <;> simp_all
theorem fld_of {T f : Nat} {fs : Array Field} {fd : Field} {k ft off : Nat} (hU : Hvaa.prog.underlying T = some (.struct fs)) (hf : fs[f]? = some fd) (ht : fd.type = ft) (ho : fd.offset = off) (hs : Sz ft (k + 1)) : Fld T f off := by
  subst ht; subst ho
  intro b o w
  simp [Instr.fieldAt, run_underlying hU, hf, Instr.sureAddr, fieldPlace, run_sizeOf hs, addr_add]
theorem agg_struct {T : Nat} {fs : Array Field} (hU : Hvaa.prog.underlying T = some (.struct fs)) : IsAgg T := by
  intro w; simp [isAgg, run_underlying hU]
theorem agg_array {T m e : Nat} (hU : Hvaa.prog.underlying T = some (.array m e)) : IsAgg T := by
  intro w; simp [isAgg, run_underlying hU]
theorem one_int {T : Nat} {k : IntKind} (hU : Hvaa.prog.underlying T = some (.int k)) : IsOne T := by
  intro w; simp [isAgg, run_underlying hU]
theorem one_bool {T : Nat} (hU : Hvaa.prog.underlying T = some .bool) : IsOne T := by
  intro w; simp [isAgg, run_underlying hU]
theorem one_slice {T e : Nat} (hU : Hvaa.prog.underlying T = some (.slice e)) : IsOne T := by
  intro w; simp [isAgg, run_underlying hU]
theorem one_ptr {T e : Nat} (hU : Hvaa.prog.underlying T = some (.pointer e)) : IsOne T := by
  intro w; simp [isAgg, run_underlying hU]
/-! Wrapping. -/
def UK (k : IntKind) (M : Nat) : Prop := k.signed = false ∧ M = 2 ^ k.bits
theorem uk8 : UK .u8 256 := ⟨rfl, rfl⟩
theorem uk16 : UK .u16 65536 := ⟨rfl, rfl⟩
theorem uk32 : UK .u32 4294967296 := ⟨rfl, rfl⟩
theorem uk64 : UK .u64 18446744073709551616 := ⟨rfl, rfl⟩
theorem wrapU {k : IntKind} {M : Nat} (h : UK k M) (z : Int) : k.wrap z = z % (M : Int) := by
  obtain ⟨h1, rfl⟩ := h
  simp [IntKind.wrap, h1]
theorem wrapU_id {k : IntKind} {M a : Nat} (h : UK k M) (ha : a < M) : k.wrap (a : Int) = (a : Int) := by
  rw [wrapU h, Int.emod_eq_of_lt (by omega) (by omega)]
theorem wrapU_nat {k : IntKind} {M a : Nat} (h : UK k M) : k.wrap (a : Int) = ((a % M : Nat) : Int) := by
  rw [wrapU h]; simp
theorem wrapU_add {k : IntKind} {M a b : Nat} (h : UK k M) : k.wrap ((a : Int) + (b : Int)) = (((a + b) % M : Nat) : Int) := by
  rw [wrapU h]; simp
theorem wrapU_addN {k : IntKind} {M a b : Nat} (h : UK k M) (hl : a + b < M) : k.wrap ((a : Int) + (b : Int)) = ((a + b : Nat) : Int) := by
  rw [wrapU h, Int.emod_eq_of_lt (by omega) (by omega)]; simp
theorem wrapU_subN {k : IntKind} {M a b : Nat} (h : UK k M) (hl : b ≤ a) (ha : a < M) : k.wrap ((a : Int) - (b : Int)) = ((a - b : Nat) : Int) := by
  rw [wrapU h, Int.emod_eq_of_lt (by omega) (by omega)]; omega
theorem wrapU_sub {k : IntKind} {M a b : Nat} (h : UK k M) (hb : b ≤ M) : k.wrap ((a : Int) - (b : Int)) = (((a + (M - b)) % M : Nat) : Int) := by
  rw [wrapU h]
  have : (a : Int) - b = ((a + (M - b) : Nat) : Int) + M * (-1) := by omega
  rw [this, Int.add_mul_emod_self_left]; simp
theorem wrapU_mul {k : IntKind} {M a b : Nat} (h : UK k M) : k.wrap ((a : Int) * (b : Int)) = (((a * b) % M : Nat) : Int) := by
  rw [wrapU h]; simp
theorem wrapU_mulN {k : IntKind} {M a b : Nat} (h : UK k M) (hl : a * b < M) : k.wrap ((a : Int) * (b : Int)) = ((a * b : Nat) : Int) := by
  rw [wrapU_mul h, Nat.mod_eq_of_lt hl]
theorem wrap_i64 {z : Int} (h1 : -9223372036854775808 ≤ z) (h2 : z ≤ 9223372036854775807) : IntKind.i64.wrap z = z := by
  simp only [IntKind.wrap, IntKind.signed, IntKind.bits, Bool.true_and, decide_eq_true_eq, ge_iff_le]
  by_cases h : (2 : Int) ^ (64 - 1) ≤ z % 2 ^ 64
  · rw [if_pos h]; omega
  · rw [if_neg h]; omega
theorem wrap_i32 {z : Int} (h1 : -2147483648 ≤ z) (h2 : z ≤ 2147483647) : IntKind.i32.wrap z = z := by
  simp only [IntKind.wrap, IntKind.signed, IntKind.bits, Bool.true_and, decide_eq_true_eq, ge_iff_le]
  by_cases h : (2 : Int) ^ (32 - 1) ≤ z % 2 ^ 32
  · rw [if_pos h]; omega
  · rw [if_neg h]; omega
theorem wrap_i8 {z : Int} (h1 : -128 ≤ z) (h2 : z ≤ 127) : IntKind.i8.wrap z = z := by
  simp only [IntKind.wrap, IntKind.signed, IntKind.bits, Bool.true_and, decide_eq_true_eq, ge_iff_le]
  by_cases h : (2 : Int) ^ (8 - 1) ≤ z % 2 ^ 8
  · rw [if_pos h]; omega
  · rw [if_neg h]; omega
/-! What an operation yields in every world of S. -/
def Yv (S : World → Prop) (n : Nat) (s : Nat → Value) (o : Oper) (v : Value) : Prop := ∀ w, S w → (execOp (ev n s) o).run Hvaa.prog w = .ok (.value v) w
section
variable {S : World → Prop} {n : Nat} {s : Nat → Value} {d : Option Nat} {ty : TypeId} {pos : String} {af : Array Edge} {g : Option (Nat × Bool)}
theorem y_move {x : Operand} : Yv S n s ⟨d, .move x, ty, pos, af, g⟩ (ev n s x) := fun w _ => by simp [execOp]
theorem y_assign {x : Operand} : Yv S n s ⟨d, .assign x, ty, pos, af, g⟩ (ev n s x) := fun w _ => by simp [execOp]
theorem y_pick {c x y : Operand} {t : Bool} (hc : ev n s c = .bool t) : Yv S n s ⟨d, .pick c x y, ty, pos, af, g⟩ (bif t then ev n s x else ev n s y) := fun w _ => by
  cases t <;> simp [execOp, hc, asBool]
theorem y_nil {x : Operand} {a : Addr} (h : ev n s x = .pointer (some a)) : Yv S n s ⟨d, .nilCheck x, ty, pos, af, g⟩ (.pointer (some a)) := fun w _ => by simp [execOp, h]
theorem y_fld {x : Operand} {T f k b o : Nat} (hF : Fld T f k) (h : ev n s x = .pointer (some ⟨b, o, none⟩)) : Yv S n s ⟨d, .fieldAddr T x f, ty, pos, af, g⟩ (.pointer (some ⟨b, o + k, none⟩)) := fun w _ => by
  simp [execOp, h, hF b o w]
theorem y_idxA {x y : Operand} {T m e k b o : Nat} {K : IntKind} {i : Int} (hU : Hvaa.prog.underlying T = some (.array m e)) (hs : Sz e k) (hx : ev n s x = .pointer (some ⟨b, o, none⟩)) (hy : ev n s y = .int K i) (h0 : 0 ≤ i) (h1 : i < m) :
    Yv S n s ⟨d, .indexAddr T x y, ty, pos, af, g⟩ (.pointer (some ⟨b, o + i.toNat * k, none⟩)) := fun w _ => by
  simp [execOp, hx, hy, Instr.indexAt, asIntOf, run_underlying hU, Instr.sureAddr, h0, h1, run_sizeOf hs, addr_add]
theorem y_idxS {x y : Operand} {T e k b o len cap : Nat} {K : IntKind} {i : Int} (hU : Hvaa.prog.underlying T = some (.slice e)) (hs : Sz e k) (hx : ev n s x = .slice (some ⟨b, o, none⟩) len cap) (hy : ev n s y = .int K i) (h0 : 0 ≤ i) (h1 : i < len) :
    Yv S n s ⟨d, .indexAddr T x y, ty, pos, af, g⟩ (.pointer (some ⟨b, o + i.toNat * k, none⟩)) := fun w _ => by
  simp [execOp, hx, hy, Instr.indexAt, asIntOf, run_underlying hU, h0, h1, run_sizeOf hs, addr_add]
theorem y_ext {x : Operand} {vs : Array Value} {i : Nat} {v : Value} (hx : ev n s x = .tuple vs) (hv : vs[i]? = some v) : Yv S n s ⟨d, .extract x i, ty, pos, af, g⟩ v := fun w _ => by
  simp [execOp, hx, Instr.extract, hv]
theorem y_conv {x : Operand} {S1 T : Nat} {k k' : IntKind} {u : TypeDesc} {i z : Int} (hS : Hvaa.prog.underlying S1 = some u) (hT : Hvaa.prog.underlying T = some (.int k)) (hx : ev n s x = .int k' i) (hz : k.wrap i = z) :
    Yv S n s ⟨d, .convert S1 T x, ty, pos, af, g⟩ (.int k z) := fun w _ => by
  simp [execOp, hx, convert, run_underlying hS, run_underlying hT, Conv.intToInt, hz]
theorem y_not {x : Operand} {T : Nat} {b : Bool} (hx : ev n s x = .bool b) : Yv S n s ⟨d, .unOp .not T x, ty, pos, af, g⟩ (.bool !b) := fun w _ => by
  simp [execOp, hx, Op.unary]
theorem y_len {x : Operand} {T e len cap : Nat} {a : Option Addr} (hU : Hvaa.prog.underlying T = some (.slice e)) (hx : ev n s x = .slice a len cap) :
    Yv S n s ⟨d, .call { callee := .builtin .len, args := #[x], argTypes := #[T] }, ty, pos, af, g⟩ (.int .i64 len) := fun w _ => by
  simp [execOp, resolve, invoke, builtin, Builtin.len_, hx, run_underlying hU, goInt]
theorem y_lenA {x : Operand} {T m e : Nat} (hU : Hvaa.prog.underlying T = some (.array m e)) :
    Yv S n s ⟨d, .call { callee := .builtin .len, args := #[x], argTypes := #[T] }, ty, pos, af, g⟩ (.int .i64 m) := fun w _ => by
  simp [execOp, resolve, invoke, builtin, Builtin.len_, run_underlying hU, goInt]
/-! integers -/
section
variable {x y : Operand} {T T' : Nat} {k : IntKind} {a b z : Int}
theorem y_add (hx : ev n s x = .int k a) (hy : ev n s y = .int k b) (hz : k.wrap (a + b) = z) : Yv S n s ⟨d, .binOp .add T x y T', ty, pos, af, g⟩ (.int k z) := fun w _ => by
  simp [execOp, hx, hy, eqGuard, binOp, Op.intArith, hz]
theorem y_sub (hx : ev n s x = .int k a) (hy : ev n s y = .int k b) (hz : k.wrap (a - b) = z) : Yv S n s ⟨d, .binOp .sub T x y T', ty, pos, af, g⟩ (.int k z) := fun w _ => by
  simp [execOp, hx, hy, eqGuard, binOp, Op.intArith, hz]
theorem y_mul (hx : ev n s x = .int k a) (hy : ev n s y = .int k b) (hz : k.wrap (a * b) = z) : Yv S n s ⟨d, .binOp .mul T x y T', ty, pos, af, g⟩ (.int k z) := fun w _ => by
  simp [execOp, hx, hy, eqGuard, binOp, Op.intArith, hz]
theorem y_quo (hx : ev n s x = .int k a) (hy : ev n s y = .int k b) (h0 : b ≠ 0) (hz : k.wrap (a.tdiv b) = z) : Yv S n s ⟨d, .binOp .quo T x y T', ty, pos, af, g⟩ (.int k z) := fun w _ => by
  simp [execOp, hx, hy, eqGuard, binOp, Op.intDiv, hz, h0]
theorem y_rem (hx : ev n s x = .int k a) (hy : ev n s y = .int k b) (h0 : b ≠ 0) (hz : a.tmod b = z) : Yv S n s ⟨d, .binOp .rem T x y T', ty, pos, af, g⟩ (.int k z) := fun w _ => by
  simp [execOp, hx, hy, eqGuard, binOp, Op.intDiv, hz, h0]
theorem y_and {m p M : Nat} (hU : UK k M) (hx : ev n s x = .int k m) (hy : ev n s y = .int k p) (hm : m < M) (hp : p < M) : Yv S n s ⟨d, .binOp .and T x y T', ty, pos, af, g⟩ (.int k ((m &&& p : Nat) : Int)) := fun w _ => by
  obtain ⟨h1, rfl⟩ := hU
  simp [execOp, hx, hy, eqGuard, binOp, Op.intBits, Nat.mod_eq_of_lt hm, Nat.mod_eq_of_lt hp]
  exact wrapU_id ⟨h1, rfl⟩ (Nat.and_lt_two_pow _ hp)
theorem y_or {m p M : Nat} (hU : UK k M) (hx : ev n s x = .int k m) (hy : ev n s y = .int k p) (hm : m < M) (hp : p < M) : Yv S n s ⟨d, .binOp .or T x y T', ty, pos, af, g⟩ (.int k ((m ||| p : Nat) : Int)) := fun w _ => by
  obtain ⟨h1, rfl⟩ := hU
  simp [execOp, hx, hy, eqGuard, binOp, Op.intBits, Nat.mod_eq_of_lt hm, Nat.mod_eq_of_lt hp]
  exact wrapU_id ⟨h1, rfl⟩ (Nat.or_lt_two_pow hm hp)
theorem y_xor {m p M : Nat} (hU : UK k M) (hx : ev n s x = .int k m) (hy : ev n s y = .int k p) (hm : m < M) (hp : p < M) : Yv S n s ⟨d, .binOp .xor T x y T', ty, pos, af, g⟩ (.int k ((m ^^^ p : Nat) : Int)) := fun w _ => by
  obtain ⟨h1, rfl⟩ := hU
  simp [execOp, hx, hy, eqGuard, binOp, Op.intBits, Nat.mod_eq_of_lt hm, Nat.mod_eq_of_lt hp]
  exact wrapU_id ⟨h1, rfl⟩ (Nat.xor_lt_two_pow hm hp)
theorem y_shl {k' : IntKind} (hx : ev n s x = .int k a) (hy : ev n s y = .int k' b) (h0 : 0 ≤ b) (hz : k.wrap (a * 2 ^ (min b.toNat k.bits)) = z) : Yv S n s ⟨d, .binOp .shl T x y T', ty, pos, af, g⟩ (.int k z) := fun w _ => by
  simp [execOp, hx, hy, eqGuard, binOp, Op.shift, Int.not_lt.2 h0, hz]
theorem y_shr {k' : IntKind} (hx : ev n s x = .int k a) (hy : ev n s y = .int k' b) (h0 : 0 ≤ b) (hz : a.fdiv (2 ^ (min b.toNat k.bits)) = z) : Yv S n s ⟨d, .binOp .shr T x y T', ty, pos, af, g⟩ (.int k z) := fun w _ => by
  simp [execOp, hx, hy, eqGuard, binOp, Op.shift, Int.not_lt.2 h0, hz]
theorem y_lss (hx : ev n s x = .int k a) (hy : ev n s y = .int k b) : Yv S n s ⟨d, .binOp .lss T x y T', ty, pos, af, g⟩ (.bool (decide (a < b))) := fun w _ => by
  simp [execOp, hx, hy, eqGuard, binOp, Op.intCmp]
theorem y_leq (hx : ev n s x = .int k a) (hy : ev n s y = .int k b) : Yv S n s ⟨d, .binOp .leq T x y T', ty, pos, af, g⟩ (.bool (decide (a ≤ b))) := fun w _ => by
  simp [execOp, hx, hy, eqGuard, binOp, Op.intCmp]
theorem y_gtr (hx : ev n s x = .int k a) (hy : ev n s y = .int k b) : Yv S n s ⟨d, .binOp .gtr T x y T', ty, pos, af, g⟩ (.bool (decide (b < a))) := fun w _ => by
  simp [execOp, hx, hy, eqGuard, binOp, Op.intCmp]
theorem y_geq (hx : ev n s x = .int k a) (hy : ev n s y = .int k b) : Yv S n s ⟨d, .binOp .geq T x y T', ty, pos, af, g⟩ (.bool (decide (b ≤ a))) := fun w _ => by
  simp [execOp, hx, hy, eqGuard, binOp, Op.intCmp]
theorem y_eql (hx : ev n s x = .int k a) (hy : ev n s y = .int k b) : Yv S n s ⟨d, .binOp .eql T x y T', ty, pos, af, g⟩ (.bool (decide (a = b))) := fun w _ => by
  simp [execOp, hx, hy, eqGuard, binOp, Op.intCmp]; rfl
theorem y_neq (hx : ev n s x = .int k a) (hy : ev n s y = .int k b) : Yv S n s ⟨d, .binOp .neq T x y T', ty, pos, af, g⟩ (.bool (decide (a ≠ b))) := fun w _ => by
  simp [execOp, hx, hy, eqGuard, binOp, Op.intCmp]; by_cases h : a = b <;> simp [h]
end
/-! memory: reads -/
def Row (w : World) (b o : Nat) (cs : List Value) : Prop := ∀ i v, cs[i]? = some v → w.cell? ⟨b, o + i, none⟩ = some v
theorem y_load1 {x : Operand} {T b o : Nat} {v : Value} (h1 : IsOne T) (hx : ev n s x = .pointer (some ⟨b, o, none⟩)) (hv : ∀ w, S w → w.cell? ⟨b, o, none⟩ = some v) : Yv S n s ⟨d, .load T x, ty, pos, af, g⟩ v := fun w hw => by
  simp [execOp, hx, Instr.loadAt, Instr.sureAddr, loadVar, h1 w, hv w hw]
theorem y_loadR {x : Operand} {T k b o : Nat} {cs : List Value} (h1 : IsAgg T) (hs : Sz T k) (hx : ev n s x = .pointer (some ⟨b, o, none⟩)) (hl : cs.length = k) (hv : ∀ w, S w → Row w b o cs) :
    Yv S n s ⟨d, .load T x, ty, pos, af, g⟩ (.agg cs.toArray) := fun w hw => by
  have hc : (loadCells ⟨b, o, none⟩ cs.length).run Hvaa.prog w = .ok cs.toArray w :=
    run_loadCells_list (P := Hvaa.prog) w ⟨b, o, none⟩ cs (fun j v h => by rw [addr_add]; exact hv w hw j v h)
  rw [hl] at hc
  simp [execOp, hx, Instr.loadAt, Instr.sureAddr, loadVar, h1 w, run_sizeOf hs w, hc]
end
/-! Steps of a region in the text's order. The goals stand behind a structure, so that nobody lays them open. -/
structure WL (ops : Array Oper) (Q : Exit → Act → World → Prop) (l : List Oper) (n : Nat) (s : Nat → Value) (w : World) : Prop where
  out : wpList Hvaa.prog ops Q l (mk n s) w
theorem c_region {Q : Exit → Act → World → Prop} {n : Nat} {s : Nat → Value} {w : World} {id : Nat} {l : List Oper} (h : WL l.toArray Q l n s w) : (Code.region id l.toArray false).wp Hvaa.prog Q (mk n s) w := wp_region_lit h.out
section
variable {Q : Exit → Act → World → Prop} {n : Nat} {s : Nat → Value} {w : World} {ops : Array Oper} {rest : List Oper} {op : Op} {ty : TypeId} {pos : String} {af : Array Edge} {v : Value}
theorem l_nil (h : Q .normal (mk n s) w) : WL ops Q [] n s w := ⟨h⟩
theorem l_step {d : Nat} (hy : Yv (fun w' => w' = w) n s ⟨some d, op, ty, pos, af, none⟩ v) (h : WL ops Q rest n (upd s d v) w) : WL ops Q (⟨some d, op, ty, pos, af, none⟩ :: rest) n s w :=
  ⟨wpList_plain rfl fun K hK => by
    have h1 := hy w rfl
    unfold Oper.wp
    rw [mk_eval', h1]
    simp only [Oper.upon]
    rw [mk_put]
    exact hK _ _ h.out⟩
/-- guarded, and wanted -/
theorem l_gstep {d j t : Nat} {b : Bool} {oj : Oper} (hj : ops[j]? = some oj) (ht : oj.dst = some t) (hb : ev n s (.tmp t) = .bool b) (hn : t < n)
    (hy : Yv (fun w' => w' = w) n s ⟨some d, op, ty, pos, af, some (j, b)⟩ v) (h : WL ops Q rest n (upd s d v) w) : WL ops Q (⟨some d, op, ty, pos, af, some (j, b)⟩ :: rest) n s w := by
  have hw : Region.wanted (⟨some d, op, ty, pos, af, some (j, b)⟩ : Oper) (yielded ops (mk n s).tmps) = true := by
    have h2 : (mk n s).tmps[t]? = some (.bool b) := by
      have : Nat.blt t n = true := by rw [Nat.blt_eq]; exact hn
      simp only [ev, this, cond_true] at hb
      simp [mk, hn, hb]
    simp [Region.wanted, yielded, hj, ht, h2]
  refine ⟨wpList_step fun K hK => ?_⟩
  rw [if_pos hw]
  have h1 := hy w rfl
  unfold Oper.wp
  rw [mk_eval', h1]
  simp only [Oper.upon]
  rw [mk_put]
  exact hK _ _ h.out
/-- guarded, and not wanted -/
theorem l_gskip {d j t : Nat} {b c : Bool} {oj : Oper} (hj : ops[j]? = some oj) (ht : oj.dst = some t) (hb : ev n s (.tmp t) = .bool c) (hn : t < n) (hne : c ≠ b)
    (h : WL ops Q rest n (upd s d undef) w) : WL ops Q (⟨some d, op, ty, pos, af, some (j, b)⟩ :: rest) n s w := by
  have hw : Region.wanted (⟨some d, op, ty, pos, af, some (j, b)⟩ : Oper) (yielded ops (mk n s).tmps) = false := by
    have h2 : (mk n s).tmps[t]? = some (.bool c) := by
      have : Nat.blt t n = true := by rw [Nat.blt_eq]; exact hn
      simp only [ev, this, cond_true] at hb
      simp [mk, hn, hb]
    simp [Region.wanted, yielded, hj, ht, h2, hne]
  refine ⟨wpList_step fun K hK => ?_⟩
  rw [if_neg (by simp [hw])]
  rw [mk_put]
  exact hK _ _ h.out
end
end Go.Proofs.YgvaawGreat
