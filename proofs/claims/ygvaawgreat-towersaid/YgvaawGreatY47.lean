import Derived.Test.YgvaawGreatY46
set_option maxRecDepth 100000
set_option maxHeartbeats 4000000
set_option linter.unusedSimpArgs false
set_option linter.unusedVariables false
namespace Go.Proofs.YgvaawGreat
open Go
theorem pack9 {w : World} {bs : Nat} {cs : Array Value} {H : Store} {e : YEnv} {r r2 r3 e1 e2 e3 e4 e5 e6 : List Value} (kS : Blk w bs cs) (h0 : RowIn cs 0 r) (h2 : RowIn cs 19 r2) (h3 : RowIn cs 39 r3) (g1 : RowIn cs 59 e1) (g2 : RowIn cs 79 e2) (g3 : RowIn cs 82 e3) (g4 : RowIn cs 114 e4) (g5 : RowIn cs 146 e5) (g6 : RowIn cs 178 e6) (eC : EC H cs 59 e) (hz : cs.size = 179) : ∃ c, Blk w bs c ∧ RowIn c 0 r ∧ RowIn c 19 r2 ∧ RowIn c 39 r3 ∧ RowIn c 59 e1 ∧ RowIn c 79 e2 ∧ RowIn c 82 e3 ∧ RowIn c 114 e4 ∧ RowIn c 146 e5 ∧ RowIn c 178 e6 ∧ EC H c 59 e ∧ c.size = 179 := ⟨cs, kS, h0, h2, h3, g1, g2, g3, g4, g5, g6, eC, hz⟩
theorem start_take {l : List YAcct} {i : Nat} (h : i < l.length) : startL (l.take (i + 1)) = startL (l.take i) ++ l[i].slots.map (fun x => (l[i].addr, x.1, x.2)) := by
  unfold startL
  rw [← List.take_append_getElem h, List.flatMap_append, List.flatMap_cons, List.flatMap_nil, List.append_nil]
theorem Fz.le9 {w : World} {H H' : Store} (h : Fz w H') (l : Le H H') : Fz w H := ⟨fun b cs hb => h.blk b cs (l b cs hb)⟩
theorem wl_take {l : List (Nat × List Nat)} {i : Nat} (h : i < l.length) (W : YWorld) : wList W (l.take (i + 1)) = wKeys (wrmY (wList W (l.take i)) l[i].1) l[i].1 l[i].2 := by
  unfold wList
  rw [← List.take_append_getElem h, List.foldl_append]
  rfl
theorem wk_take {ks : List Nat} {j : Nat} (h : j < ks.length) (W : YWorld) (a : Nat) : (wKeys W a (ks.take (j + 1))).warmS = withM (wKeys W a (ks.take j)).warmS a ks[j] := by
  unfold wKeys
  rw [← List.take_append_getElem h, List.foldl_append]
  rfl
theorem wk_warmA (a : Nat) : ∀ (ks : List Nat) (W : YWorld), (wKeys W a ks).warmA = W.warmA
  | [], _ => rfl
  | _ :: ks, _ => wk_warmA a ks _
theorem wk_eq (a : Nat) : ∀ (ks : List Nat) (W : YWorld), wKeys W a ks = { W with warmS := (wKeys W a ks).warmS }
  | [], _ => rfl
  | k :: ks, W => wk_eq a ks { W with warmS := withM W.warmS a k }
theorem wl_eq : ∀ (l : List (Nat × List Nat)) (W : YWorld), wList W l = { W with warmA := (wList W l).warmA, warmS := (wList W l).warmS }
  | [], _ => rfl
  | x :: l, W => by
    have h1 := wl_eq l (wKeys (wrmY W x.1) x.1 x.2)
    have h2 := wk_eq x.1 x.2 (wrmY W x.1)
    show wList (wKeys (wrmY W x.1) x.1 x.2) l = { W with warmA := (wList (wKeys (wrmY W x.1) x.1 x.2) l).warmA, warmS := (wList (wKeys (wrmY W x.1) x.1 x.2) l).warmS }
    generalize wList (wKeys (wrmY W x.1) x.1 x.2) l = Z at h1 ⊢
    generalize wKeys (wrmY W x.1) x.1 x.2 = Q at h1 h2
    calc Z = { Q with warmA := Z.warmA, warmS := Z.warmS } := h1
      _ = { W with warmA := Z.warmA, warmS := Z.warmS } := by rw [h2]; rfl
theorem bW_eq (s : YSt) (T : YTx) : bW s T = { s.now with accts := bA2 s T, warmA := (bW s T).warmA, warmS := (bW s T).warmS } := wl_eq T.access (bW3 s T)
theorem g_1 {cs : Array Value} {x va vs : Value} (h : cs[0 + 1]? = some x) : ((cs.setIfInBounds (0 + 1) va).setIfInBounds (0 + 2) vs)[0 + 1]? = some va := by
  rw [Array.getElem?_setIfInBounds_ne (by decide)]
  exact get_set h
theorem g_2 {cs : Array Value} {x va vs : Value} (h : cs[0 + 2]? = some x) : ((cs.setIfInBounds (0 + 1) va).setIfInBounds (0 + 2) vs)[0 + 2]? = some vs := by
  refine get_set (x := x) (o := 0 + 2) ?_
  rw [Array.getElem?_setIfInBounds_ne (by decide)]
  exact h
theorem s_121 {cs : Array Value} {va vs z : Value} : ((cs.setIfInBounds (0 + 1) va).setIfInBounds (0 + 2) vs).setIfInBounds (0 + 1) z = (cs.setIfInBounds (0 + 1) z).setIfInBounds (0 + 2) vs := by
  apply Array.ext_getElem?
  intro i
  by_cases e1 : i = 1
  · subst e1; simp [Array.getElem?_setIfInBounds]
  · by_cases e2 : i = 2
    · subst e2; simp [Array.getElem?_setIfInBounds]
    · simp [Array.getElem?_setIfInBounds, Ne.symm e1, Ne.symm e2]
theorem row_12 {cs : Array Value} {va vs x0 x1 x2 : Value} {r : List Value} (h : RowIn cs 0 (x0 :: x1 :: x2 :: r)) : RowIn ((cs.setIfInBounds (0 + 1) va).setIfInBounds (0 + 2) vs) 0 (x0 :: va :: vs :: r) := fun i v hv => by
  have h1 := h 1 x1 rfl
  have h2 := h 2 x2 rfl
  match i with
  | 0 =>
    rw [Array.getElem?_setIfInBounds_ne (by decide), Array.getElem?_setIfInBounds_ne (by decide)]
    exact h 0 v hv
  | 1 => exact Option.some.inj hv ▸ g_1 h1
  | 2 => exact Option.some.inj hv ▸ g_2 h2
  | i + 3 =>
    rw [Array.getElem?_setIfInBounds_ne (by omega), Array.getElem?_setIfInBounds_ne (by omega)]
    exact h (i + 3) v hv
theorem row_12o {cs : Array Value} {va vs : Value} {o : Nat} {r : List Value} (h : RowIn cs o r) (ho : 3 ≤ o) : RowIn ((cs.setIfInBounds (0 + 1) va).setIfInBounds (0 + 2) vs) o r := fun i v hv => by
  rw [Array.getElem?_setIfInBounds_ne (by omega), Array.getElem?_setIfInBounds_ne (by omega)]
  exact h i v hv
theorem EC.s12 {H : Store} {cs : Array Value} {va vs : Value} {e : YEnv} (h : EC H cs 59 e) : EC H ((cs.setIfInBounds (0 + 1) va).setIfInBounds (0 + 2) vs) 59 e := by
  obtain ⟨ha, hc, h1, h2, h3, h4, h5, h6, h7⟩ := h.ex
  exact ⟨h.ok, ha, hc, row_12o h1 (by decide), row_12o h2 (by decide), row_12o h3 (by decide), row_12o h4 (by decide), row_12o h5 (by decide), row_12o h6 (by decide), h7⟩
theorem start_le {l : List YAcct} {i j : Nat} (h : i < l.length) {f : Nat × Nat → Nat × Nat × Nat} : (startL (l.take i) ++ (l[i].slots.take j).map f).length ≤ (startL l).length := by
  have e : startL l = startL (l.take i) ++ startL (l.drop i) := by
    unfold startL
    rw [← List.flatMap_append, List.take_append_drop]
  rw [e, List.drop_eq_getElem_cons h, start_cons, List.length_append, List.length_append, List.length_append, List.length_map, List.length_map, List.length_take]
  omega
theorem get_set8 {cs : Array Value} {o : Nat} {x v : Value} (h : cs[o]? = some x) : (cs.setIfInBounds o v)[o]? = some v := get_set h
theorem map_take1 {α β : Type} {l : List α} {f : α → β} {j : Nat} (h : j < l.length) : (l.take (j + 1)).map f = (l.take j).map f ++ [f l[j]] := by
  rw [← List.take_append_getElem h, List.map_append]
  rfl
def bfr (k n : Nat) (gv vv cv iv : Value) (a b : Nat) : List Value := [.int .u8 (k : Nat), .int .u8 (n : Nat), .bool false, .slice none 0 0, gv, vv, .slice none 0 0, .slice none 0 0, .slice none 0 0, .slice none 0 0, cv, iv] ++ (bL (be 20 a) ++ (bL (be 20 b) ++ [.slice none 0 0, .slice none 0 0, .slice none 0 0, .slice none 0 0, .slice none 0 0, .slice none 0 0, .slice none 0 0, .slice none 0 0]))
theorem bfr_len {k n : Nat} {gv vv cv iv : Value} {a b : Nat} : (bfr k n gv vv cv iv a b).length = 60 := by
  unfold bfr
  rw [List.length_append, List.length_append, List.length_append, length_bL, length_be, length_bL, length_be]
  rfl
theorem bfr_one {k n : Nat} {gv vv cv iv : Value} {a b : Nat} (h1 : gv.one1 = true) (h2 : vv.one1 = true) (h3 : cv.one1 = true) (h4 : iv.one1 = true) : ∀ v ∈ bfr k n gv vv cv iv a b, v.one1 = true := by
  intro v hv
  unfold bfr at hv
  simp only [List.mem_append] at hv
  rcases hv with hv | hv | hv | hv
  · simp only [List.mem_cons, List.not_mem_nil, or_false] at hv
    rcases hv with rfl | rfl | rfl | rfl | rfl | rfl | rfl | rfl | rfl | rfl | rfl | rfl <;> first | rfl | assumption
  · exact one_bL _ v hv
  · exact one_bL _ v hv
  · simp only [List.mem_cons, List.not_mem_nil, or_false] at hv
    rcases hv with rfl | rfl | rfl | rfl | rfl | rfl | rfl | rfl <;> rfl
theorem bfr_nt {k n q : Nat} {gv vv cv iv : Value} {a b : Nat} : spl (bfr k n gv vv cv iv a b).toArray 1 [.int .u8 (q : Nat)] = (bfr k q gv vv cv iv a b).toArray := spl_mid [_] _ _ _ 1 rfl
theorem bfr_kd {k n q : Nat} {gv vv cv iv : Value} {a b : Nat} : spl (bfr k n gv vv cv iv a b).toArray 0 [.int .u8 (q : Nat)] = (bfr q n gv vv cv iv a b).toArray := spl_mid [] _ _ _ 0 rfl
theorem bfr_co {k n : Nat} {gv vv cv iv q : Value} {a b : Nat} : spl (bfr k n gv vv cv iv a b).toArray 10 [q] = (bfr k n gv vv q iv a b).toArray := spl_mid [_, _, _, _, _, _, _, _, _, _] _ _ _ 10 rfl
theorem bfr_in {k n : Nat} {gv vv cv iv q : Value} {a b : Nat} : spl (bfr k n gv vv cv iv a b).toArray 11 [q] = (bfr k n gv vv cv q a b).toArray := spl_mid [_, _, _, _, _, _, _, _, _, _, _] _ _ _ 11 rfl
theorem bfr_fc {H : Store} {k n g v a b : Nat} {gv vv : Value} {ca ia : Option Addr} {cc ic : Nat} {code inp : List Nat} (hk : k < 256) (hn : n < 256) (hg : NV H gv g) (hv : NV H vv v) (hc : BV H (.slice ca code.length cc) code) (hi : BV H (.slice ia inp.length ic) inp) (b1 : g < 4294967296) (b2 : v < W256) (b3 : a < A160) (b4 : b < A160) (b5 : code.length < 1048576) (b6 : inp.length < 16777216) : FC H (bfr k n gv vv (.slice ca code.length cc) (.slice ia inp.length ic) a b).toArray 0 (cFr k false v a b g n code inp) (.slice none 0 0) := by
  have hR := RowIn.self (bfr k n gv vv (.slice ca code.length cc) (.slice ia inp.length ic) a b)
  unfold bfr at hR
  have r2 := hR.right
  have r3 := r2.right
  rw [length_bL, length_be] at r3
  have r4 := r3.right
  rw [length_bL, length_be] at r4
  refine ⟨⟨hk, hn, (by show 0 < 4294967296; decide), b1, b2, (by show 0 < W256; decide), (by show 0 < W256; decide), b3, b4, (by show 0 < 65536; decide), b5, b6, (by show 0 < 16777216; decide)⟩, .slice none 0 0, gv, vv, .slice none 0 0, .slice none 0 0, none, 0, ca, cc, ia, ic, _, hR.left, r2.left, r3.left, r4, ?_, NV.nil _, hg, hv, NV.nil _, NV.nil _, LV.nil _ _ _, hc, hi⟩
  exact ⟨_, _, _, _, _, _, _, _, rfl, LV.nil _ _ _, LV.nil _ _ _, LV.nil _ _ _, NV.nil _, (by show 0 < 18446744073709551616; decide), LV.nil _ _ _, LV.nil _ _ _, LV.nil _ _ _, LV.nil _ _ _, none, 0, rfl⟩
theorem bld_bfr {gv vv : Value} {A B : List Value} (h1 : gv.one1 = true) (h2 : vv.one1 = true) (hA : A.length = 20) (hB : B.length = 20) (w : World) : (Instr.build 146 ([(0, Value.int .u8 0), (4, gv), (5, vv), (12, Value.agg A.toArray), (13, Value.agg B.toArray)] : List (Nat × Value)).toArray).run Hvaa.prog w = .ok (Value.agg ([Value.int .u8 ((0 : Nat) : Int), Value.int .u8 ((0 : Nat) : Int), Value.bool false, Value.slice none 0 0, gv, vv, Value.slice none 0 0, Value.slice none 0 0, Value.slice none 0 0, Value.slice none 0 0, Value.slice none 0 0, Value.slice none 0 0] ++ (A ++ (B ++ [Value.slice none 0 0, Value.slice none 0 0, Value.slice none 0 0, Value.slice none 0 0, Value.slice none 0 0, Value.slice none 0 0, Value.slice none 0 0, Value.slice none 0 0]))).toArray) w := by
  have h : (Instr.build 146 ([(0, Value.int .u8 0), (4, gv), (5, vv), (12, Value.agg A.toArray), (13, Value.agg B.toArray)] : List (Nat × Value)).toArray).run Hvaa.prog w = .ok (Value.agg ([([Value.int .u8 0]), [Value.int .u8 0], [Value.bool false], [Value.slice none 0 0], ([gv]), ([vv]), [Value.slice none 0 0], [Value.slice none 0 0], [Value.slice none 0 0], [Value.slice none 0 0], [Value.slice none 0 0], [Value.slice none 0 0], (A), (B), ([[Value.slice none 0 0], [Value.slice none 0 0], [Value.slice none 0 0], [Value.slice none 0 0], [Value.slice none 0 0], [Value.slice none 0 0], [Value.slice none 0 0], [Value.slice none 0 0]] : List (List Value)).flatten] : List (List Value)).flatten.toArray) w := bld_run zr_146 plc_146 (fill_flat (off := 0) (k := 1) (f := [Value.int .u8 0]) (c := [Value.int .u8 0]) (v := Value.int .u8 0) rfl rfl (by first | rfl | (simp [hA, hB, length_bL, length_be]; done)) (by first | rfl | (simp [hA, hB, length_bL, length_be]; done)) rfl (by first | rfl | (simp [hA, hB, length_bL, length_be]; done)) (fill_flat (off := 4) (k := 1) (f := [Value.slice none 0 0]) (c := [gv]) (v := gv) rfl (cells_one h1) (by first | rfl | (simp [hA, hB, length_bL, length_be]; done)) (by first | rfl | (simp [hA, hB, length_bL, length_be]; done)) rfl (by first | rfl | (simp [hA, hB, length_bL, length_be]; done)) (fill_flat (off := 5) (k := 1) (f := [Value.slice none 0 0]) (c := [vv]) (v := vv) rfl (cells_one h2) (by first | rfl | (simp [hA, hB, length_bL, length_be]; done)) (by first | rfl | (simp [hA, hB, length_bL, length_be]; done)) rfl (by first | rfl | (simp [hA, hB, length_bL, length_be]; done)) (fill_flat (off := 12) (k := 20) (f := (List.replicate 20 (Value.int .u8 0))) (c := A) (v := Value.agg A.toArray) rfl rfl (by first | rfl | (simp [hA, hB, length_bL, length_be]; done)) (by first | rfl | (simp [hA, hB, length_bL, length_be]; done)) rfl (by first | rfl | (simp [hA, hB, length_bL, length_be]; done)) (fill_flat (off := 32) (k := 20) (f := (List.replicate 20 (Value.int .u8 0))) (c := B) (v := Value.agg B.toArray) rfl rfl (by first | rfl | (simp [hA, hB, length_bL, length_be]; done)) (by first | rfl | (simp [hA, hB, length_bL, length_be]; done)) rfl (by first | rfl | (simp [hA, hB, length_bL, length_be]; done)) (fill_nil _ _)))))) w
  rw [h]
  congr 2
theorem ym_rest {w : World} {H : Store} {bs : Nat} {cs : Array Value} {s : YSt} {Y : Nat → Prop} (hF : Fz w H) (kS : Blk w bs cs) (hs : SC H cs s (.slice none 0 0)) (hfr : s.frames = []) (hlg : s.now.logs = []) (h4 : cs[4]? = some (.slice none 0 0)) (nb : ¬ H.has bs) (hY : Y bs) : YM w H bs s Y 0 := by
  refine ⟨hF, cs, .slice none 0 0, .slice none 0 0, #[], [], none, kS, hs, ?_, ?_, ?_, ?_, h4, ⟨⟨nb, hY⟩, (fun e => by cases e), (fun m hm => by cases hm), .nil, (fun b e => by cases e)⟩⟩
  · rw [hfr]; exact GB.nil _ _ _ _
  · rw [hfr]; exact ⟨rfl, fun i f m hf _ => by cases hf⟩
  · rw [hfr]; exact ⟨fun i f m hf _ => by cases hf⟩
  · rw [hlg]; exact ⟨.inl ⟨rfl, LV.nil _ _ _, none, 0, rfl⟩⟩
section
variable {S : World → Prop} {n : Nat} {s : Nat → Value} {d : Option Nat} {ty : TypeId} {pos : String} {af : Array Edge} {g : Option (Nat × Bool)}
theorem y_bldBF {x4 x5 x12 x13 : Operand} {gv vv : Value} {a b : Nat} (o1 : gv.one1 = true) (o2 : vv.one1 = true) (h4 : ev n s x4 = gv) (h5 : ev n s x5 = vv) (h12 : ev n s x12 = aV a) (h13 : ev n s x13 = aV b) : Yv S n s ⟨d, .build 146 #[(0, .const (Value.int .u8 0)), (4, x4), (5, x5), (12, x12), (13, x13)], ty, pos, af, g⟩ (Value.agg (bfr 0 0 gv vv (.slice none 0 0) (.slice none 0 0) a b).toArray) := by
  unfold bfr
  exact y_bld (ps := [(0, .const (Value.int .u8 0)), (4, x4), (5, x5), (12, x12), (13, x13)]) (bC rfl (bC h4 (bC h5 (bC h12 (bC h13 bN))))) (bld_bfr (A := bL (be 20 a)) (B := bL (be 20 b)) o1 o2 (by rw [length_bL, length_be]) (by rw [length_bL, length_be]))
end
theorem yp_beginT {w : World} {H : Store} (hF : Fz w H) (bs : Nat) (cs : Array Value) (s : YSt) (vf : Value) (kS : Blk w bs cs) (hs : SC H cs s vf) {txc : List Value} {T : YTx} (ht : TC H txc.toArray T) (htl : txc.length = 174) (nbS : ¬ H.has bs) (hv4 : cs[4]? = some (.slice none 0 0)) (hi : II s) (hsl9 : (startL s.now.accts).length < 1000000) (hac9 : s.now.accts.length < 1000000) (hv0 : verdN s T = 0) (hcr : T.create = false) (hTg : bTgt s T = T.to) (hen9 : EnH { bS s T with phase := 1 } (bF s T)) (hcl9 : ∀ a, (acctAt (bW s T).accts a).code.length < 1048576) :
    Ret 19 [.pointer (some ⟨bs, 0, none⟩), .agg txc.toArray] w (fun v w' => v = .int .u8 (0 : Nat) ∧ ∃ H' bf', Go (fun k => k = bs) w H w' H' ∧ YM w' H' bs (begY s T) (fun b => b = bs ∨ w.heap.size ≤ b) bf') := by
  obtain ⟨aa, ac, wa, wc, sa, sc, vr, la, lc, ta, tc, ma, mc, ga, gc, oa, oc, ra, rc, vlim, vtx, vleft, vpr, vtot, rS, rOr, rMd, hAc, hWA, hWS, hRf, hTm, hMd, hGn, hSr, hRt, hLm, hTx, hLf, hPr, hTt⟩ := hs.ex
  have so := hs.ok
  have so1 := so.accts
  have so2 := so.warmA
  have so3 := so.warmS
  have so4 := so.temps
  have so5 := so.start
  have so6 := so.logs
  have so7 := so.made
  have so8 := so.gone
  have so9 := so.ret
  have eC := hs.env
  obtain ⟨eha, ehc, rE1, rE2, rE3, rE4, rE5, rE6, hHs⟩ := hs.env.ex
  have eo := hs.env.ok
  have eo1 := eo.hashes
  obtain ⟨tda, tdc, taa, tac, rT1, rT2, rT3, rT4, rT5, rT6, rT7, rT8, rT9, hTd, hTa⟩ := ht.ex
  have tok := ht.ok
  have to1 := tok.data
  have to2 := tok.access
  have lS := kS.lt
  have vd := vd_of hv0
  have hno9 : (acctAt s.now.accts T.frm).nonce + 1 < 18446744073709551616 := by have h1 := vd.nmx; have h2 := vd.non; have h3 := tok.nonce; have h4 : (bSnd s T).nonce = (acctAt s.now.accts T.frm).nonce := rfl; omega
  obtain ⟨hls1, hls2⟩ : T.access.length ≤ 16 ∧ keysN T.access ≤ 64 := by have h9 := vd.ls; unfold lsOk at h9; simpa using h9
  have hla9 : Value.slice la s.now.logs.length lc = .slice none 0 0 := by have h9 := rS 4 _ rfl; rw [show cs[0 + 4]? = cs[4]? from rfl, hv4] at h9; exact (Option.some.inj h9).symm
  have hlg9 : (bW s T).logs = [] := by rw [bW_eq]; show s.now.logs = []; rw [hi.now]
  have hwa0 : s.now.warmA.length = 0 := by rw [hi.now]; rfl
  have hws0 : s.now.warmS.length = 0 := by rw [hi.now]; rfl
  have hdl9 := vd.data
  have hgs9 := vd.gas
  have hap9 := vd.ap
  refine enter (n := 271) Hvaa.func19 rfl rfl (Nat.le_of_ble_eq_true rfl) ?_
  have U : Ch (fun k => k = bs) w w := Ch.refl _ w
  have G : Go (fun k => k = bs) w H w H := Go.refl hF
  have hL0 : Le H H := Le.refl H
  refine c_seq (fun K1 hK1 => ?_)
  exact (by
    refine c_region ?_
    refine l_eff (e_boxV (et (gS rfl g0) rfl)) (fun v2 w2 h2 => ?_)
    obtain ⟨b2, rfl, n2⟩ := h2
    have f2 : w.heap.size ≤ b2 := Nat.le_trans U.size n2.fresh
    have nb2 := hF.nb n2.fresh
    replace G := G.tr (Go.ofUp hF n2.up)
    replace hF := hF.up n2.up
    replace kS := kS.up n2.up
    replace U := U.tr n2.up
    have k2 := n2.blk
    replace k2 : Blk w2 b2 txc.toArray := k2
    refine l_step y_assignC ?_
    refine l_nil ?_
    refine hK1 _ _ ?_
    refine fg2 0 3 (gS rfl (gS rfl g0)) (gS rfl g0) (fun g => ?_)
    refine c_seq (fun K3 hK3 => ?_)
    exact (by
      refine c_region ?_
      refine l_step (y_moveV (et (gS rfl g0) rfl)) ?_
      refine l_step (y_nil (et g0 rfl)) ?_
      refine l_step (y_fld fld_104_0 (et g0 rfl)) ?_
      refine l_step (y_assignV (et g0 rfl)) ?_
      refine l_nil ?_
      refine hK3 _ _ ?_
      refine fg2 3 5 (gS rfl (gS rfl (gS rfl (gS rfl g0)))) g0 (fun g => ?_)
      refine c_seq (fun K4 hK4 => ?_)
      refine c_seq (fun K5 hK5 => ?_)
      exact (by
        refine c_region ?_
        refine l_step (y_moveV (et g0 rfl)) ?_
        refine l_step (y_loadB agg_41 sz_41 (et (gS rfl (gS rfl g0)) rfl) (by rw [List.size_toArray]; exact htl) (at1B k2)) ?_
        refine l_eff (e_callV cal_42 (aC (et (gS rfl g0) rfl) (aC (et g0 rfl) aN)) (yp_verdict hF _ _ _ _ kS (hs.mono hL0) (ht.mono hL0) htl)) (fun v6 w6 h6 => ?_)
        obtain ⟨H6, rfl, g6⟩ := h6
        have hlew6 := g6.le
        replace nb2 := g6.nb nb2 k2.lt
        replace nbS := g6.nb nbS kS.lt
        replace hL0 := hL0.trans hlew6
        replace k2 := k2.up g6.up
        replace kS := kS.up g6.up
        replace U := U.tr g6.up
        replace G := G.tr g6
        replace hF := g6.fz
        refine l_step (y_assignV (et g0 rfl)) ?_
        refine l_nil ?_
        refine hK5 _ _ ?_
        refine fg3 3 5 6 (gS rfl (gS rfl (gS rfl (gS rfl (gS rfl g0))))) (gS rfl (gS rfl (gS rfl (gS rfl g0)))) g0 (fun g => ?_)
        refine c_seq (fun K7 hK7 => ?_)
        exact (by
          refine c_region ?_
          refine l_step (y_moveV (et g0 rfl)) ?_
          refine l_step (y_neq (et g0 rfl) rfl) ?_
          refine l_nil ?_
          refine hK7 _ _ ?_
          refine fg4 3 5 6 25 (gS rfl (gS rfl (gS rfl (gS rfl g0)))) (gS rfl (gS rfl (gS rfl g0))) (gS rfl (gS rfl g0)) g0 (fun g => ?_)
          refine c_false (et g0 rfl) (by (rw [hv0]; rfl)) ?_
          refine c_skip ?_
          refine hK4 _ _ ?_
          refine fg2 3 5 (gS rfl (gS rfl (gS rfl g0))) (gS rfl (gS rfl g0)) (fun g => ?_)
          refine c_seq (fun K9 hK9 => ?_)
          exact (by
            refine fgv2 3 5 (gS rfl g0) g0 (fun g z3 z5 e3 e5 => ?_)
            refine c_drawJ (fun s_ w_ => ∃ (g : Nat → Value) (b12 : Nat) (ca10 : List Value), s_ = (upd (upd (upd g 3 z3) 5 z5) 7 (.pointer (some ⟨b12, 0, none⟩))) ∧ Ch (fun _ => False) w6 w_ ∧ w6.heap.size ≤ b12 ∧ Blk w_ b12 (ca10.toArray) ∧ (PA H6 ca10 (acctAt s.now.accts T.frm))) Up 7 (.pure 0 (.pure 1 (.pure 2 (.pure 3 (.pure 4 (.two 5 (.eff 6 (.eff 7 .fin)) 6 (.eff 5 (.eff 7 .fin)))))))) (by kernel_rfl) (fun w13 hu => ⟨Up.refl _, ?_⟩) ?_
            · skip
              subst e3 e5
              replace G := G.tr (Go.ofUp hF hu)
              replace hF := hF.up hu
              replace k2 := k2.up hu
              replace kS := kS.up hu
              replace U := U.tr hu
              have SU := Up.refl w13
              have V11 : Ch (fun _ => False) w6 w13 := hu
              refine t_step (by exact rfl) (y_moveV (et g0 rfl)) ?_
              refine t_step (by exact rfl) (y_nil (et g0 rfl)) ?_
              refine t_step (by exact rfl) (y_fld fld_102_0 (et g0 rfl)) ?_
              refine t_step (by exact rfl) (y_fld fld_41_0 (et (gS rfl (gS rfl (gS rfl (gS rfl g0)))) rfl)) ?_
              refine t_step (by exact rfl) (y_loadR agg_25 sz_25 (et g0 rfl) (by rw [length_bL, length_be]) (atSR (k2.row rT1))) ?_
              refine t_two ?_ ?_
              · skip
                refine t_eff (by exact rfl) (e_callV cal_43 (aC (et (gS rfl (gS rfl g0)) rfl) (aC (et g0 rfl) aN)) (yp_account _ _ _ _ _ _ _ _ _ hF kS (rS 0 _ rfl) (hAc.mono hL0) tok.frm (by omega))) (fun v14 w14 h14 => ?_)
                obtain ⟨c14, rfl, p14, u14⟩ := h14
                replace G := G.tr (Go.ofUp hF u14)
                replace hF := hF.up u14
                replace k2 := k2.up u14
                replace kS := kS.up u14
                replace U := U.tr u14
                replace V11 := V11.tr u14
                replace p14 : PA _ _ _ := ⟨p14⟩
                refine ⟨.inr (SU.tr u14), ?_⟩
                replace SU := SU.tr u14
                refine t_one ?_
                refine t_eff (by exact rfl) (e_alloc zr_107) (fun v15 w15 h15 => ?_)
                obtain ⟨b15, rfl, n15⟩ := h15
                have d2_15 : b2 < b15 := Nat.lt_of_lt_of_le k2.lt n15.fresh
                have f15 : w.heap.size ≤ b15 := Nat.le_trans U.size n15.fresh
                have nb15 := hF.nb n15.fresh
                have fS15 := Nat.le_trans SU.size n15.fresh
                have fV11_15 := Nat.le_trans V11.size n15.fresh
                replace G := G.tr (Go.ofUp hF n15.up)
                replace hF := hF.up n15.up
                replace k2 := k2.up n15.up
                replace kS := kS.up n15.up
                replace U := U.tr n15.up
                replace V11 := V11.tr n15.up
                have k15 := n15.blk
                refine ⟨.inr (SU.tr n15.up), ?_⟩
                replace SU := SU.tr n15.up
                refine t_one ?_
                refine t_effN (by exact rfl) (e_store sz_107 (et g0 rfl) (cellsV (et (gS rfl g0) rfl) rfl) (acct_len p14.p) (by exact acct_one p14.p) k15 (by exact Nat.le_of_ble_eq_true rfl)) (fun v16 w16 h16 => ?_)
                obtain ⟨rfl, x16⟩ := h16
                replace k2 := k2.ch x16.ch (by omega)
                replace kS := kS.ch x16.ch (by first | omega | (first | omega | exact hOo.ne (by omega)))
                replace k15 := x16.blk.full (by rw [acct_len p14.p]; rfl)
                replace G := G.wr x16 (by first | exact .inr f15 | omega | (simp; omega)) nb15
                replace hF := G.fz
                replace U := U.st x16 (.inr f15)
                replace V11 := V11.st x16 (by omega)
                refine ⟨.inl rfl, ?_⟩
                refine tl3 3 5 7 (gS rfl (gS rfl (gS rfl (gS rfl (gS rfl (gS rfl (gS rfl (gS rfl g0)))))))) (gS rfl (gS rfl (gS rfl (gS rfl (gS rfl (gS rfl (gS rfl g0))))))) g0 (fun g => ?_)
                exact ⟨g, _, _, rfl, V11, Nat.le_trans hu.size fS15, k15, p14⟩
              · skip
                refine t_eff (by exact rfl) (e_alloc zr_107) (fun v17 w17 h17 => ?_)
                obtain ⟨b17, rfl, n17⟩ := h17
                have d2_17 : b2 < b17 := Nat.lt_of_lt_of_le k2.lt n17.fresh
                have f17 : w.heap.size ≤ b17 := Nat.le_trans U.size n17.fresh
                have nb17 := hF.nb n17.fresh
                have fS17 := Nat.le_trans SU.size n17.fresh
                have fV11_17 := Nat.le_trans V11.size n17.fresh
                replace G := G.tr (Go.ofUp hF n17.up)
                replace hF := hF.up n17.up
                replace k2 := k2.up n17.up
                replace kS := kS.up n17.up
                replace U := U.tr n17.up
                replace V11 := V11.tr n17.up
                have k17 := n17.blk
                refine ⟨.inr (SU.tr n17.up), ?_⟩
                replace SU := SU.tr n17.up
                refine t_one ?_
                refine t_eff (by exact rfl) (e_callV cal_43 (aC (et (gS rfl (gS rfl (gS rfl g0))) rfl) (aC (et (gS rfl g0) rfl) aN)) (yp_account _ _ _ _ _ _ _ _ _ hF kS (rS 0 _ rfl) (hAc.mono hL0) tok.frm (by omega))) (fun v18 w18 h18 => ?_)
                obtain ⟨c18, rfl, p18, u18⟩ := h18
                replace G := G.tr (Go.ofUp hF u18)
                replace hF := hF.up u18
                replace k2 := k2.up u18
                replace k17 := k17.up u18
                replace kS := kS.up u18
                replace U := U.tr u18
                replace V11 := V11.tr u18
                replace p18 : PA _ _ _ := ⟨p18⟩
                refine ⟨.inr (SU.tr u18), ?_⟩
                replace SU := SU.tr u18
                refine t_one ?_
                refine t_effN (by exact rfl) (e_store sz_107 (et (gS rfl g0) rfl) (cellsV (et g0 rfl) rfl) (acct_len p18.p) (by exact acct_one p18.p) k17 (by exact Nat.le_of_ble_eq_true rfl)) (fun v19 w19 h19 => ?_)
                obtain ⟨rfl, x19⟩ := h19
                replace k2 := k2.ch x19.ch (by omega)
                replace kS := kS.ch x19.ch (by first | omega | (first | omega | exact hOo.ne (by omega)))
                replace k17 := x19.blk.full (by rw [acct_len p18.p]; rfl)
                replace G := G.wr x19 (by first | exact .inr f17 | omega | (simp; omega)) nb17
                replace hF := G.fz
                replace U := U.st x19 (.inr f17)
                replace V11 := V11.st x19 (by omega)
                refine ⟨.inl rfl, ?_⟩
                refine tl3 3 5 7 (gS rfl (gS rfl (gS rfl (gS rfl (gS rfl (gS rfl (gS rfl (gS rfl g0)))))))) (gS rfl (gS rfl (gS rfl (gS rfl (gS rfl (gS rfl (gS rfl g0))))))) (gS rfl g0) (fun g => ?_)
                exact ⟨g, _, _, rfl, V11, Nat.le_trans hu.size fS17, k17, p18⟩
            intro s_ w20 hJ
            obtain ⟨g, b12, ca10, rfl, V11, fn12, kn12, pa10⟩ := hJ
            subst e3 e5
            have d2_12 : b2 < b12 := Nat.lt_of_lt_of_le k2.lt fn12
            have f12 : w.heap.size ≤ b12 := Nat.le_trans U.size fn12
            have nb12 := hF.nb fn12
            replace G := G.tr (Go.ofUp hF V11)
            replace hF := hF.up V11
            replace k2 := k2.up V11
            replace kS := kS.up V11
            replace U := U.tr V11
            have k12 := kn12
            refine hK9 _ _ ?_
            refine c_seq (fun K21 hK21 => ?_)
            exact (by
              refine c_region ?_
              refine l_step (y_fld fld_41_1 (et (gS rfl (gS rfl g0)) rfl)) ?_
              refine l_step (y_loadR agg_25 sz_25 (et g0 rfl) (by rw [length_bL, length_be]) (at1R (k2.row rT2))) ?_
              refine l_eff (e_alloc zr_25) (fun v22 w22 h22 => ?_)
              obtain ⟨b22, rfl, n22⟩ := h22
              have d2_22 : b2 < b22 := Nat.lt_of_lt_of_le k2.lt n22.fresh
              have d12_22 : b12 < b22 := Nat.lt_of_lt_of_le k12.lt n22.fresh
              have f22 : w.heap.size ≤ b22 := Nat.le_trans U.size n22.fresh
              have nb22 := hF.nb n22.fresh
              replace G := G.tr (Go.ofUp hF n22.up)
              replace hF := hF.up n22.up
              replace k2 := k2.up n22.up
              replace k12 := k12.up n22.up
              replace kS := kS.up n22.up
              replace U := U.tr n22.up
              have k22 := n22.blk
              refine l_effN (e_store sz_25 (et g0 rfl) (cellsV (et (gS rfl g0) rfl) rfl) (by rw [length_bL, length_be]) (by exact one_bL _) k22 (by exact Nat.le_of_ble_eq_true rfl)) (fun v23 w23 h23 => ?_)
              obtain ⟨rfl, x23⟩ := h23
              replace k2 := k2.ch x23.ch (by omega)
              replace k12 := k12.ch x23.ch (by omega)
              replace kS := kS.ch x23.ch (by first | omega | (first | omega | exact hOo.ne (by omega)))
              replace k22 := x23.blk.full (by rw [length_bL, length_be]; rfl)
              replace G := G.wr x23 (by first | exact .inr f22 | omega | (simp; omega)) nb22
              replace hF := G.fz
              replace U := U.st x23 (.inr f22)
              refine l_nil ?_
              refine hK21 _ _ ?_
              refine fg4 3 5 7 8 (gS rfl (gS rfl (gS rfl (gS rfl (gS rfl g0))))) (gS rfl (gS rfl (gS rfl (gS rfl g0)))) (gS rfl (gS rfl (gS rfl g0))) g0 (fun g => ?_)
              refine c_seq (fun K24 hK24 => ?_)
              exact (by
                refine c_region ?_
                refine l_step (y_moveV (et (gS rfl (gS rfl g0)) rfl)) ?_
                refine l_step (y_bld bN bld25_z) ?_
                refine l_step (y_nil (et (gS rfl g0) rfl)) ?_
                refine l_step (y_fld fld_102_13 (et g0 rfl)) ?_
                have rl25 := RowIn.le rMd (by simp only [length_bL, length_be]; decide)
                simp only [length_bL, length_be] at rl25
                refine l_effN (e_store sz_25 (et g0 rfl) (cellsV (et (gS rfl (gS rfl g0)) rfl) rfl) (by rw [length_bL, length_be]) (by exact one_bL _) kS (by first | exact Nat.le_trans (by omega) rl25 | exact Nat.le_of_ble_eq_true rfl | (simp; done) | (simp; omega) | omega | (simp only [size_spl, Array.size_setIfInBounds, hs.size]; exact Nat.le_of_ble_eq_true rfl))) (fun v25 w25 h25 => ?_)
                obtain ⟨rfl, x25⟩ := h25
                replace k2 := k2.ch x25.ch (by omega)
                replace k12 := k12.ch x25.ch (by omega)
                replace k22 := k22.ch x25.ch (by omega)
                replace kS := x25.blk
                replace G := G.wr x25 (.inl (by first | rfl | (simp; done))) nbS
                replace hF := G.fz
                replace U := U.st x25 (.inl (by first | rfl | (simp; done)))
                replace eC := kS.eputm eC (by first | omega | (simp only [length_bL, length_be, List.length_cons, List.length_nil]; omega)) (by first | omega | (simp only [length_bL, length_be, List.length_cons, List.length_nil]; omega))
                replace rS := kS.rputmo rS (by first | omega | (simp only [length_bL, length_be, List.length_cons, List.length_nil]; omega)) (by first | omega | (simp only [length_bL, length_be, List.length_cons, List.length_nil]; omega))
                replace rOr := kS.rputmo rOr (by first | omega | (simp only [length_bL, length_be, List.length_cons, List.length_nil]; omega)) (by first | omega | (simp only [length_bL, length_be, List.length_cons, List.length_nil]; omega))
                replace rMd := kS.rputs (by first | omega | (simp only [length_bL, length_be, List.length_cons, List.length_nil]; omega))
                replace rE1 := kS.rputmo rE1 (by first | omega | (simp only [length_bL, length_be, List.length_cons, List.length_nil]; omega)) (by first | omega | (simp only [length_bL, length_be, List.length_cons, List.length_nil]; omega))
                replace rE2 := kS.rputmo rE2 (by first | omega | (simp only [length_bL, length_be, List.length_cons, List.length_nil]; omega)) (by first | omega | (simp only [length_bL, length_be, List.length_cons, List.length_nil]; omega))
                replace rE3 := kS.rputmo rE3 (by first | omega | (simp only [length_bL, length_be, List.length_cons, List.length_nil]; omega)) (by first | omega | (simp only [length_bL, length_be, List.length_cons, List.length_nil]; omega))
                replace rE4 := kS.rputmo rE4 (by first | omega | (simp only [length_bL, length_be, List.length_cons, List.length_nil]; omega)) (by first | omega | (simp only [length_bL, length_be, List.length_cons, List.length_nil]; omega))
                replace rE5 := kS.rputmo rE5 (by first | omega | (simp only [length_bL, length_be, List.length_cons, List.length_nil]; omega)) (by first | omega | (simp only [length_bL, length_be, List.length_cons, List.length_nil]; omega))
                replace rE6 := kS.rputmo rE6 (by first | omega | (simp only [length_bL, length_be, List.length_cons, List.length_nil]; omega)) (by first | omega | (simp only [length_bL, length_be, List.length_cons, List.length_nil]; omega))
                refine l_nil ?_
                refine hK24 _ _ ?_
                refine fg4 3 5 7 8 (gS rfl (gS rfl (gS rfl (gS rfl (gS rfl (gS rfl (gS rfl g0))))))) (gS rfl (gS rfl (gS rfl (gS rfl (gS rfl (gS rfl g0)))))) (gS rfl (gS rfl (gS rfl (gS rfl (gS rfl g0))))) (gS rfl (gS rfl (gS rfl (gS rfl g0)))) (fun g => ?_)
                refine c_seq (fun K26 hK26 => ?_)
                exact (by
                  refine c_region ?_
                  refine l_step (y_moveV (et (gS rfl (gS rfl g0)) rfl)) ?_
                  refine l_step (y_nil (et g0 rfl)) ?_
                  refine l_step (y_fld fld_102_2 (et g0 rfl)) ?_
                  have rl27 := RowIn.le rS (Nat.succ_pos _)
                  simp only [List.length_cons, List.length_nil, Nat.zero_add, Nat.reduceAdd] at rl27
                  refine l_effN (e_store sz_100 (et g0 rfl) (cellsV rfl rfl) rfl (by first | exact one_bL _ | exact one_uL _ | (intro v hv; simp at hv; subst hv; rfl)) kS (by first | exact Nat.le_trans (by omega) rl27 | exact Nat.le_of_ble_eq_true rfl | (simp; done) | (simp; omega) | omega | (simp only [size_spl, Array.size_setIfInBounds, hs.size]; exact Nat.le_of_ble_eq_true rfl))) (fun v27 w27 h27 => ?_)
                  obtain ⟨rfl, x27⟩ := h27
                  replace k2 := k2.ch x27.ch (by omega)
                  replace k12 := k12.ch x27.ch (by omega)
                  replace k22 := k22.ch x27.ch (by omega)
                  replace kS := x27.blk
                  replace G := G.wr x27 (.inl (by first | rfl | (simp; done))) nbS
                  replace hF := G.fz
                  replace U := U.st x27 (.inl (by first | rfl | (simp; done)))
                  replace eC := kS.eput eC (by omega)
                  replace rS : RowIn _ _ [.slice aa s.now.accts.length ac, .slice wa s.now.warmA.length wc, .slice sa s.now.warmS.length sc, vr, .slice la s.now.logs.length lc, .slice ta s.now.temps.length tc, .slice ma s.now.made.length mc, .slice ga s.now.gone.length gc, .slice oa s.start.length oc, .slice none 0 0, .slice ra s.ret.length rc, .int .u8 (s.phase : Nat), .int .u8 (s.status : Nat), .int .u8 (s.applied : Nat), vlim, vtx, vleft, vpr, vtot] := kS.rput rS 9 rfl
                  replace rOr := kS.rputo rOr (by first | (left; omega) | (right; simp only [List.length_cons, List.length_nil, length_bL, length_be]; omega))
                  replace rMd := kS.rputo rMd (by first | (left; omega) | (right; simp only [List.length_cons, List.length_nil, length_bL, length_be]; omega))
                  replace rE1 := kS.rputo rE1 (by first | (left; omega) | (right; simp only [List.length_cons, List.length_nil, length_bL, length_be]; omega))
                  replace rE2 := kS.rputo rE2 (by first | (left; omega) | (right; simp only [List.length_cons, List.length_nil, length_bL, length_be]; omega))
                  replace rE3 := kS.rputo rE3 (by first | (left; omega) | (right; simp only [List.length_cons, List.length_nil, length_bL, length_be]; omega))
                  replace rE4 := kS.rputo rE4 (by first | (left; omega) | (right; simp only [List.length_cons, List.length_nil, length_bL, length_be]; omega))
                  replace rE5 := kS.rputo rE5 (by first | (left; omega) | (right; simp only [List.length_cons, List.length_nil, length_bL, length_be]; omega))
                  replace rE6 := kS.rputo rE6 (by first | (left; omega) | (right; simp only [List.length_cons, List.length_nil, length_bL, length_be]; omega))
                  refine l_nil ?_
                  refine hK26 _ _ ?_
                  refine fg4 3 5 7 8 (gS rfl (gS rfl (gS rfl (gS rfl (gS rfl (gS rfl g0)))))) (gS rfl (gS rfl (gS rfl (gS rfl (gS rfl g0))))) (gS rfl (gS rfl (gS rfl (gS rfl g0)))) (gS rfl (gS rfl (gS rfl g0))) (fun g => ?_)
                  refine c_seq (fun K28 hK28 => ?_)
                  refine c_seq (fun K29 hK29 => ?_)
                  exact (by
                    refine c_region ?_
                    refine l_step (y_fld fld_41_2 (et (gS rfl (gS rfl (gS rfl g0))) rfl)) ?_
                    refine l_step (y_load1 one_4 (et g0 rfl) (at1 (k2.cell (rT3 0 _ rfl)))) ?_
                    refine l_nil ?_
                    refine hK29 _ _ ?_
                    refine fg5 3 5 7 8 43 (gS rfl (gS rfl (gS rfl (gS rfl (gS rfl g0))))) (gS rfl (gS rfl (gS rfl (gS rfl g0)))) (gS rfl (gS rfl (gS rfl g0))) (gS rfl (gS rfl g0)) g0 (fun g => ?_)
                    refine c_false (et g0 rfl) (by (exact hcr)) ?_
                    refine c_skip ?_
                    refine hK28 _ _ ?_
                    refine fg4 3 5 7 8 (gS rfl (gS rfl (gS rfl (gS rfl g0)))) (gS rfl (gS rfl (gS rfl g0))) (gS rfl (gS rfl g0)) (gS rfl g0) (fun g => ?_)
                    refine c_seq (fun K31 hK31 => ?_)
                    exact (by
                      refine c_region ?_
                      refine l_step (y_moveV (et (gS rfl (gS rfl g0)) rfl)) ?_
                      refine l_step (y_nil (et g0 rfl)) ?_
                      refine l_step (y_fld fld_102_6 (et g0 rfl)) ?_
                      refine l_step (y_load1 one_5 (et g0 rfl) (at1 (kS.cell (rS 13 _ rfl)))) ?_
                      refine l_step (y_add (et g0 rfl) rfl (wrapU_addN (b := 1) uk8 ?_)) ?_
                      (have := vd.ap; omega)
                      refine l_step (y_nil (et (gS rfl (gS rfl (gS rfl (gS rfl g0)))) rfl)) ?_
                      refine l_step (y_fld fld_102_6 (et g0 rfl)) ?_
                      have rl32 := RowIn.le rS (Nat.succ_pos _)
                      simp only [List.length_cons, List.length_nil, Nat.zero_add, Nat.reduceAdd] at rl32
                      refine l_effN (e_store sz_5 (et g0 rfl) (cellsV (et (gS rfl (gS rfl g0)) rfl) rfl) rfl (by first | exact one_bL _ | exact one_uL _ | (intro v hv; simp at hv; subst hv; rfl)) kS (by first | exact Nat.le_trans (by omega) rl32 | exact Nat.le_of_ble_eq_true rfl | (simp; done) | (simp; omega) | omega | (simp only [size_spl, Array.size_setIfInBounds, hs.size]; exact Nat.le_of_ble_eq_true rfl))) (fun v32 w32 h32 => ?_)
                      obtain ⟨rfl, x32⟩ := h32
                      replace k2 := k2.ch x32.ch (by omega)
                      replace k12 := k12.ch x32.ch (by omega)
                      replace k22 := k22.ch x32.ch (by omega)
                      replace kS := x32.blk
                      replace G := G.wr x32 (.inl (by first | rfl | (simp; done))) nbS
                      replace hF := G.fz
                      replace U := U.st x32 (.inl (by first | rfl | (simp; done)))
                      replace eC := kS.eput eC (by omega)
                      replace rS : RowIn _ _ [.slice aa s.now.accts.length ac, .slice wa s.now.warmA.length wc, .slice sa s.now.warmS.length sc, vr, .slice la s.now.logs.length lc, .slice ta s.now.temps.length tc, .slice ma s.now.made.length mc, .slice ga s.now.gone.length gc, .slice oa s.start.length oc, .slice none 0 0, .slice ra s.ret.length rc, .int .u8 (s.phase : Nat), .int .u8 (s.status : Nat), .int .u8 ((s.applied + 1 : Nat) : Int), vlim, vtx, vleft, vpr, vtot] := kS.rput rS 13 rfl
                      replace rOr := kS.rputo rOr (by first | (left; omega) | (right; simp only [List.length_cons, List.length_nil, length_bL, length_be]; omega))
                      replace rMd := kS.rputo rMd (by first | (left; omega) | (right; simp only [List.length_cons, List.length_nil, length_bL, length_be]; omega))
                      replace rE1 := kS.rputo rE1 (by first | (left; omega) | (right; simp only [List.length_cons, List.length_nil, length_bL, length_be]; omega))
                      replace rE2 := kS.rputo rE2 (by first | (left; omega) | (right; simp only [List.length_cons, List.length_nil, length_bL, length_be]; omega))
                      replace rE3 := kS.rputo rE3 (by first | (left; omega) | (right; simp only [List.length_cons, List.length_nil, length_bL, length_be]; omega))
                      replace rE4 := kS.rputo rE4 (by first | (left; omega) | (right; simp only [List.length_cons, List.length_nil, length_bL, length_be]; omega))
                      replace rE5 := kS.rputo rE5 (by first | (left; omega) | (right; simp only [List.length_cons, List.length_nil, length_bL, length_be]; omega))
                      replace rE6 := kS.rputo rE6 (by first | (left; omega) | (right; simp only [List.length_cons, List.length_nil, length_bL, length_be]; omega))
                      refine l_nil ?_
                      refine hK31 _ _ ?_
                      refine fg4 3 5 7 8 (gS rfl (gS rfl (gS rfl (gS rfl (gS rfl (gS rfl (gS rfl (gS rfl (gS rfl (gS rfl g0)))))))))) (gS rfl (gS rfl (gS rfl (gS rfl (gS rfl (gS rfl (gS rfl (gS rfl (gS rfl g0))))))))) (gS rfl (gS rfl (gS rfl (gS rfl (gS rfl (gS rfl (gS rfl (gS rfl g0)))))))) (gS rfl (gS rfl (gS rfl (gS rfl (gS rfl (gS rfl (gS rfl g0))))))) (fun g => ?_)
                      refine c_seq (fun K33 hK33 => ?_)
                      exact (by
                        refine c_region ?_
                        refine l_step (y_moveV (et (gS rfl (gS rfl g0)) rfl)) ?_
                        refine l_step (y_fld fld_41_4 (et (gS rfl (gS rfl (gS rfl (gS rfl g0)))) rfl)) ?_
                        refine l_step (y_load1 one_26 (et g0 rfl) (at1 (k2.cell (rT3 2 _ rfl)))) ?_
                        refine l_eff (e_callV cal_32 (aC (et g0 rfl) aN) (yp_num hF (tok.gas))) (fun v34 w34 h34 => ?_)
                        obtain ⟨H34, g34, n34⟩ := h34
                        have hlew34 := g34.le
                        replace nb2 := g34.nb nb2 k2.lt
                        replace nb12 := g34.nb nb12 k12.lt
                        replace nb22 := g34.nb nb22 k22.lt
                        replace nbS := g34.nb nbS kS.lt
                        replace pa10 := pa10.mono hlew34
                        replace hL0 := hL0.trans hlew34
                        replace k2 := k2.up g34.up
                        replace k12 := k12.up g34.up
                        replace k22 := k22.up g34.up
                        replace kS := kS.up g34.up
                        replace U := U.tr g34.up
                        replace G := G.tr g34
                        replace hF := g34.fz
                        have q34 := bd_64 (tok.gas)
                        refine l_step (y_nil (et (gS rfl (gS rfl (gS rfl g0))) rfl)) ?_
                        refine l_step (y_fld fld_102_7 (et g0 rfl)) ?_
                        obtain ⟨sa35, sn35, sc35, rfl⟩ := n34.sl
                        have rl35 := RowIn.le rS (Nat.succ_pos _)
                        simp only [List.length_cons, List.length_nil, Nat.zero_add, Nat.reduceAdd] at rl35
                        refine l_effN (e_store sz_95 (et g0 rfl) (cellsV (et (gS rfl (gS rfl g0)) rfl) rfl) rfl (by first | exact one_bL _ | exact one_uL _ | (intro v hv; simp at hv; subst hv; rfl)) kS (by first | exact Nat.le_trans (by omega) rl35 | exact Nat.le_of_ble_eq_true rfl | (simp; done) | (simp; omega) | omega | (simp only [size_spl, Array.size_setIfInBounds, hs.size]; exact Nat.le_of_ble_eq_true rfl))) (fun v35 w35 h35 => ?_)
                        obtain ⟨rfl, x35⟩ := h35
                        replace k2 := k2.ch x35.ch (by omega)
                        replace k12 := k12.ch x35.ch (by omega)
                        replace k22 := k22.ch x35.ch (by omega)
                        replace kS := x35.blk
                        replace G := G.wr x35 (.inl (by first | rfl | (simp; done))) nbS
                        replace hF := G.fz
                        replace U := U.st x35 (.inl (by first | rfl | (simp; done)))
                        replace eC := kS.eput eC (by omega)
                        replace rS : RowIn _ _ [.slice aa s.now.accts.length ac, .slice wa s.now.warmA.length wc, .slice sa s.now.warmS.length sc, vr, .slice la s.now.logs.length lc, .slice ta s.now.temps.length tc, .slice ma s.now.made.length mc, .slice ga s.now.gone.length gc, .slice oa s.start.length oc, .slice none 0 0, .slice ra s.ret.length rc, .int .u8 (s.phase : Nat), .int .u8 (s.status : Nat), .int .u8 ((s.applied + 1 : Nat) : Int), .slice sa35 sn35 sc35, vtx, vleft, vpr, vtot] := kS.rput rS 14 rfl
                        replace rOr := kS.rputo rOr (by first | (left; omega) | (right; simp only [List.length_cons, List.length_nil, length_bL, length_be]; omega))
                        replace rMd := kS.rputo rMd (by first | (left; omega) | (right; simp only [List.length_cons, List.length_nil, length_bL, length_be]; omega))
                        replace rE1 := kS.rputo rE1 (by first | (left; omega) | (right; simp only [List.length_cons, List.length_nil, length_bL, length_be]; omega))
                        replace rE2 := kS.rputo rE2 (by first | (left; omega) | (right; simp only [List.length_cons, List.length_nil, length_bL, length_be]; omega))
                        replace rE3 := kS.rputo rE3 (by first | (left; omega) | (right; simp only [List.length_cons, List.length_nil, length_bL, length_be]; omega))
                        replace rE4 := kS.rputo rE4 (by first | (left; omega) | (right; simp only [List.length_cons, List.length_nil, length_bL, length_be]; omega))
                        replace rE5 := kS.rputo rE5 (by first | (left; omega) | (right; simp only [List.length_cons, List.length_nil, length_bL, length_be]; omega))
                        replace rE6 := kS.rputo rE6 (by first | (left; omega) | (right; simp only [List.length_cons, List.length_nil, length_bL, length_be]; omega))
                        refine l_nil ?_
                        refine hK33 _ _ ?_
                        refine fg4 3 5 7 8 (gS rfl (gS rfl (gS rfl (gS rfl (gS rfl (gS rfl (gS rfl (gS rfl (gS rfl g0))))))))) (gS rfl (gS rfl (gS rfl (gS rfl (gS rfl (gS rfl (gS rfl (gS rfl g0)))))))) (gS rfl (gS rfl (gS rfl (gS rfl (gS rfl (gS rfl (gS rfl g0))))))) (gS rfl (gS rfl (gS rfl (gS rfl (gS rfl (gS rfl g0)))))) (fun g => ?_)
                        refine c_seq (fun K36 hK36 => ?_)
                        exact (by
                          refine c_draw Up 10 [(0, true), (1, true), (2, true), (3, true), (4, true), (5, true), (6, false), (7, false), (8, true), (9, true), (10, false)] (by kernel_rfl) (fun w37 hu => ⟨Up.refl _, ?_⟩)
                          replace G := G.tr (Go.ofUp hF hu)
                          replace hF := hF.up hu
                          replace k2 := k2.up hu
                          replace k12 := k12.up hu
                          replace k22 := k22.up hu
                          replace kS := kS.up hu
                          replace U := U.tr hu
                          have SU := Up.refl w37
                          refine p_step (by exact rfl) (y_moveV (et (gS rfl (gS rfl g0)) rfl)) ?_
                          refine p_step (by exact rfl) (y_moveV (et (gS rfl (gS rfl (gS rfl g0))) rfl)) ?_
                          refine p_step (by exact rfl) (y_nil (et g0 rfl)) ?_
                          refine p_step (by exact rfl) (y_fld fld_102_7 (et g0 rfl)) ?_
                          refine p_step (by exact rfl) (y_load1 one_95 (et g0 rfl) (atS (kS.cell (rS 14 _ rfl)))) ?_
                          refine p_step (by exact rfl) (y_loadB agg_41 sz_41 (et (gS rfl (gS rfl (gS rfl (gS rfl (gS rfl (gS rfl (gS rfl (gS rfl g0)))))))) rfl) (by rw [List.size_toArray]; exact htl) (atSB k2)) ?_
                          refine p_eff (by exact rfl) (e_callV cal_46 (aC (et g0 rfl) aN) (yp_intrinsic hF (ht.mono hL0) vd.data vd.ls)) (fun v38 w38 h38 => ?_)
                          obtain ⟨H38, g38, n38, q38⟩ := h38
                          have hlew38 := g38.le
                          replace nb2 := g38.nb nb2 k2.lt
                          replace nb12 := g38.nb nb12 k12.lt
                          replace nb22 := g38.nb nb22 k22.lt
                          replace nbS := g38.nb nbS kS.lt
                          replace pa10 := pa10.mono hlew38
                          replace n34 := n34.mono hlew38
                          replace hL0 := hL0.trans hlew38
                          replace k2 := k2.up g38.up
                          replace k12 := k12.up g38.up
                          replace k22 := k22.up g38.up
                          replace kS := kS.up g38.up
                          replace U := U.tr g38.up
                          replace G := G.tr g38
                          replace hF := g38.fz
                          refine ⟨.inr (SU.tr g38.up), ?_⟩
                          replace SU := SU.tr g38.up
                          exact (by
                            refine p_eff (by exact rfl) (e_callV cal_45 (aC (et (gS rfl (gS rfl g0)) rfl) (aC (et g0 rfl) aN)) (yp_less hF n34 n38 (bd_sm q34 (by decide)) (bd_sm q38 (by decide)))) (fun v39 w39 h39 => ?_)
                            obtain ⟨H39, g39, n39⟩ := h39
                            have hlew39 := g39.le
                            replace nb2 := g39.nb nb2 k2.lt
                            replace nb12 := g39.nb nb12 k12.lt
                            replace nb22 := g39.nb nb22 k22.lt
                            replace nbS := g39.nb nbS kS.lt
                            replace pa10 := pa10.mono hlew39
                            replace n34 := n34.mono hlew39
                            replace n38 := n38.mono hlew39
                            replace hL0 := hL0.trans hlew39
                            replace k2 := k2.up g39.up
                            replace k12 := k12.up g39.up
                            replace k22 := k22.up g39.up
                            replace kS := kS.up g39.up
                            replace U := U.tr g39.up
                            replace G := G.tr g39
                            replace hF := g39.fz
                            have q39 := bd_sub' n39 q34
                            refine ⟨.inr (SU.tr g39.up), ?_⟩
                            replace SU := SU.tr g39.up
                            refine p_step (by exact rfl) (y_nil (et (gS rfl (gS rfl (gS rfl (gS rfl (gS rfl (gS rfl (gS rfl g0))))))) rfl)) ?_
                            refine p_step (by exact rfl) (y_fld fld_102_8 (et g0 rfl)) ?_
                            obtain ⟨sa40, sn40, sc40, rfl⟩ := n39.sl
                            have rl40 := RowIn.le rS (Nat.succ_pos _)
                            simp only [List.length_cons, List.length_nil, Nat.zero_add, Nat.reduceAdd] at rl40
                            refine p_effN (by exact rfl) (e_store sz_95 (et g0 rfl) (cellsV (et (gS rfl (gS rfl g0)) rfl) rfl) rfl (by first | exact one_bL _ | exact one_uL _ | (intro v hv; simp at hv; subst hv; rfl)) kS (by first | exact Nat.le_trans (by omega) rl40 | exact Nat.le_of_ble_eq_true rfl | (simp; done) | (simp; omega) | omega | (simp only [size_spl, Array.size_setIfInBounds, hs.size]; exact Nat.le_of_ble_eq_true rfl))) (fun v40 w40 h40 => ?_)
                            obtain ⟨rfl, x40⟩ := h40
                            replace k2 := k2.ch x40.ch (by omega)
                            replace k12 := k12.ch x40.ch (by omega)
                            replace k22 := k22.ch x40.ch (by omega)
                            replace kS := x40.blk
                            replace G := G.wr x40 (.inl (by first | rfl | (simp; done))) nbS
                            replace hF := G.fz
                            replace U := U.st x40 (.inl (by first | rfl | (simp; done)))
                            replace eC := kS.eput eC (by omega)
                            replace rS : RowIn _ _ [.slice aa s.now.accts.length ac, .slice wa s.now.warmA.length wc, .slice sa s.now.warmS.length sc, vr, .slice la s.now.logs.length lc, .slice ta s.now.temps.length tc, .slice ma s.now.made.length mc, .slice ga s.now.gone.length gc, .slice oa s.start.length oc, .slice none 0 0, .slice ra s.ret.length rc, .int .u8 (s.phase : Nat), .int .u8 (s.status : Nat), .int .u8 ((s.applied + 1 : Nat) : Int), .slice sa35 sn35 sc35, .slice sa40 sn40 sc40, vleft, vpr, vtot] := kS.rput rS 15 rfl
                            replace rOr := kS.rputo rOr (by first | (left; omega) | (right; simp only [List.length_cons, List.length_nil, length_bL, length_be]; omega))
                            replace rMd := kS.rputo rMd (by first | (left; omega) | (right; simp only [List.length_cons, List.length_nil, length_bL, length_be]; omega))
                            replace rE1 := kS.rputo rE1 (by first | (left; omega) | (right; simp only [List.length_cons, List.length_nil, length_bL, length_be]; omega))
                            replace rE2 := kS.rputo rE2 (by first | (left; omega) | (right; simp only [List.length_cons, List.length_nil, length_bL, length_be]; omega))
                            replace rE3 := kS.rputo rE3 (by first | (left; omega) | (right; simp only [List.length_cons, List.length_nil, length_bL, length_be]; omega))
                            replace rE4 := kS.rputo rE4 (by first | (left; omega) | (right; simp only [List.length_cons, List.length_nil, length_bL, length_be]; omega))
                            replace rE5 := kS.rputo rE5 (by first | (left; omega) | (right; simp only [List.length_cons, List.length_nil, length_bL, length_be]; omega))
                            replace rE6 := kS.rputo rE6 (by first | (left; omega) | (right; simp only [List.length_cons, List.length_nil, length_bL, length_be]; omega))
                            refine ⟨.inl rfl, ?_⟩
                            refine p_nil ?_
                            refine hK36 _ _ ?_
                            refine fg4 3 5 7 8 (gS rfl (gS rfl (gS rfl (gS rfl (gS rfl (gS rfl (gS rfl (gS rfl (gS rfl (gS rfl (gS rfl (gS rfl (gS rfl g0))))))))))))) (gS rfl (gS rfl (gS rfl (gS rfl (gS rfl (gS rfl (gS rfl (gS rfl (gS rfl (gS rfl (gS rfl (gS rfl g0)))))))))))) (gS rfl (gS rfl (gS rfl (gS rfl (gS rfl (gS rfl (gS rfl (gS rfl (gS rfl (gS rfl (gS rfl g0))))))))))) (gS rfl (gS rfl (gS rfl (gS rfl (gS rfl (gS rfl (gS rfl (gS rfl (gS rfl (gS rfl g0)))))))))) (fun g => ?_)
                            refine c_seq (fun K41 hK41 => ?_)
                            exact (by
                              refine c_region ?_
                              refine l_step (y_moveV (et (gS rfl (gS rfl g0)) rfl)) ?_
                              refine l_step (y_moveV (et (gS rfl (gS rfl (gS rfl g0))) rfl)) ?_
                              refine l_step (y_loadB agg_41 sz_41 (et (gS rfl (gS rfl (gS rfl (gS rfl (gS rfl g0))))) rfl) (by rw [List.size_toArray]; exact htl) (at1B k2)) ?_
                              have hsP : SC H39 _ { s with made := 0, frames := [], applied := s.applied + 1, limit := T.gas, txGas := T.gas - intrN T } (.slice none 0 0) := ⟨⟨so.accts, so.warmA, so.warmS, so.refund, so.logs, so.temps, so.made, so.gone, so.start, so.ret, so.phase, so.status, by show s.applied + 1 < 256; have := vd.ap; omega, by show T.gas < _; have := vd.gas; omega, by show T.gas - intrN T < _; have := vd.gas; omega, so.left, so.price, so.total, so.origin, (by show 0 < A160; decide)⟩, eC.mono hL0, (by simp only [size_spl, Array.size_setIfInBounds]; exact hs.size), _, _, _, _, _, _, _, _, _, _, _, _, _, _, _, _, _, _, _, _, _, _, _, _, rS, rOr, rMd, (hAc.mono hL0), (hWA.mono hL0), (hWS.mono hL0), (hRf.mono hL0), (hTm.mono hL0), (hMd.mono hL0), (hGn.mono hL0), (hSr.mono hL0), (hRt.mono hL0), n34, n39, (hLf.mono hL0), (hPr.mono hL0), (hTt.mono hL0)⟩
                              refine l_eff (e_callV cal_47 (aC (et (gS rfl g0) rfl) (aC (et g0 rfl) aN)) (yp_price hF _ _ _ _ kS hsP (ht.mono hL0))) (fun v42 w42 h42 => ?_)
                              obtain ⟨H42, g42, n42, q42⟩ := h42
                              have hlew42 := g42.le
                              replace nb2 := g42.nb nb2 k2.lt
                              replace nb12 := g42.nb nb12 k12.lt
                              replace nb22 := g42.nb nb22 k22.lt
                              replace nbS := g42.nb nbS kS.lt
                              replace pa10 := pa10.mono hlew42
                              replace n34 := n34.mono hlew42
                              replace n38 := n38.mono hlew42
                              replace n39 := n39.mono hlew42
                              replace hsP := hsP.mono hlew42
                              replace hL0 := hL0.trans hlew42
                              replace k2 := k2.up g42.up
                              replace k12 := k12.up g42.up
                              replace k22 := k22.up g42.up
                              replace kS := kS.up g42.up
                              replace U := U.tr g42.up
                              replace G := G.tr g42
                              replace hF := g42.fz
                              refine l_step (y_nil (et (gS rfl (gS rfl (gS rfl g0))) rfl)) ?_
                              refine l_step (y_fld fld_102_10 (et g0 rfl)) ?_
                              obtain ⟨sa43, sn43, sc43, rfl⟩ := n42.sl
                              have rl43 := RowIn.le rS (Nat.succ_pos _)
                              simp only [List.length_cons, List.length_nil, Nat.zero_add, Nat.reduceAdd] at rl43
                              refine l_effN (e_store sz_95 (et g0 rfl) (cellsV (et (gS rfl (gS rfl g0)) rfl) rfl) rfl (by first | exact one_bL _ | exact one_uL _ | (intro v hv; simp at hv; subst hv; rfl)) kS (by first | exact Nat.le_trans (by omega) rl43 | exact Nat.le_of_ble_eq_true rfl | (simp; done) | (simp; omega) | omega | (simp only [size_spl, Array.size_setIfInBounds, hs.size]; exact Nat.le_of_ble_eq_true rfl))) (fun v43 w43 h43 => ?_)
                              obtain ⟨rfl, x43⟩ := h43
                              replace k2 := k2.ch x43.ch (by omega)
                              replace k12 := k12.ch x43.ch (by omega)
                              replace k22 := k22.ch x43.ch (by omega)
                              replace kS := x43.blk
                              replace G := G.wr x43 (.inl (by first | rfl | (simp; done))) nbS
                              replace hF := G.fz
                              replace U := U.st x43 (.inl (by first | rfl | (simp; done)))
                              replace eC := kS.eput eC (by omega)
                              replace rS : RowIn _ _ [.slice aa s.now.accts.length ac, .slice wa s.now.warmA.length wc, .slice sa s.now.warmS.length sc, vr, .slice la s.now.logs.length lc, .slice ta s.now.temps.length tc, .slice ma s.now.made.length mc, .slice ga s.now.gone.length gc, .slice oa s.start.length oc, .slice none 0 0, .slice ra s.ret.length rc, .int .u8 (s.phase : Nat), .int .u8 (s.status : Nat), .int .u8 ((s.applied + 1 : Nat) : Int), .slice sa35 sn35 sc35, .slice sa40 sn40 sc40, vleft, .slice sa43 sn43 sc43, vtot] := kS.rput rS 17 rfl
                              replace rOr := kS.rputo rOr (by first | (left; omega) | (right; simp only [List.length_cons, List.length_nil, length_bL, length_be]; omega))
                              replace rMd := kS.rputo rMd (by first | (left; omega) | (right; simp only [List.length_cons, List.length_nil, length_bL, length_be]; omega))
                              replace rE1 := kS.rputo rE1 (by first | (left; omega) | (right; simp only [List.length_cons, List.length_nil, length_bL, length_be]; omega))
                              replace rE2 := kS.rputo rE2 (by first | (left; omega) | (right; simp only [List.length_cons, List.length_nil, length_bL, length_be]; omega))
                              replace rE3 := kS.rputo rE3 (by first | (left; omega) | (right; simp only [List.length_cons, List.length_nil, length_bL, length_be]; omega))
                              replace rE4 := kS.rputo rE4 (by first | (left; omega) | (right; simp only [List.length_cons, List.length_nil, length_bL, length_be]; omega))
                              replace rE5 := kS.rputo rE5 (by first | (left; omega) | (right; simp only [List.length_cons, List.length_nil, length_bL, length_be]; omega))
                              replace rE6 := kS.rputo rE6 (by first | (left; omega) | (right; simp only [List.length_cons, List.length_nil, length_bL, length_be]; omega))
                              refine l_nil ?_
                              refine hK41 _ _ ?_
                              refine fg4 3 5 7 8 (gS rfl (gS rfl (gS rfl (gS rfl (gS rfl (gS rfl (gS rfl (gS rfl (gS rfl g0))))))))) (gS rfl (gS rfl (gS rfl (gS rfl (gS rfl (gS rfl (gS rfl (gS rfl g0)))))))) (gS rfl (gS rfl (gS rfl (gS rfl (gS rfl (gS rfl (gS rfl g0))))))) (gS rfl (gS rfl (gS rfl (gS rfl (gS rfl (gS rfl g0)))))) (fun g => ?_)
                              refine c_seq (fun K44 hK44 => ?_)
                              exact (by
                                refine c_region ?_
                                refine l_step (y_moveV (et (gS rfl (gS rfl g0)) rfl)) ?_
                                refine l_step (y_fld fld_41_0 (et (gS rfl (gS rfl (gS rfl (gS rfl g0)))) rfl)) ?_
                                refine l_step (y_loadR agg_25 sz_25 (et g0 rfl) (by rw [length_bL, length_be]) (at1R (k2.row rT1))) ?_
                                refine l_step (y_nil (et (gS rfl (gS rfl g0)) rfl)) ?_
                                refine l_step (y_fld fld_102_12 (et g0 rfl)) ?_
                                have rl45 := RowIn.le rOr (by simp only [length_bL, length_be]; decide)
                                simp only [length_bL, length_be] at rl45
                                refine l_effN (e_store sz_25 (et g0 rfl) (cellsV (et (gS rfl (gS rfl g0)) rfl) rfl) (by rw [length_bL, length_be]) (by exact one_bL _) kS (by first | exact Nat.le_trans (by omega) rl45 | (rw [length_bL, length_be]; omega))) (fun v45 w45 h45 => ?_)
                                obtain ⟨rfl, x45⟩ := h45
                                replace k2 := k2.ch x45.ch (by omega)
                                replace k12 := k12.ch x45.ch (by omega)
                                replace k22 := k22.ch x45.ch (by omega)
                                replace kS := x45.blk
                                replace G := G.wr x45 (.inl (by first | rfl | (simp; done))) nbS
                                replace hF := G.fz
                                replace U := U.st x45 (.inl (by first | rfl | (simp; done)))
                                replace eC := kS.eputm eC (by first | omega | (simp only [length_bL, length_be, List.length_cons, List.length_nil]; omega)) (by first | omega | (simp only [length_bL, length_be, List.length_cons, List.length_nil]; omega))
                                replace rS := kS.rputmo rS (by first | omega | (simp only [length_bL, length_be, List.length_cons, List.length_nil]; omega)) (by first | omega | (simp only [length_bL, length_be, List.length_cons, List.length_nil]; omega))
                                replace rOr := kS.rputs (by first | omega | (simp only [length_bL, length_be, List.length_cons, List.length_nil]; omega))
                                replace rMd := kS.rputmo rMd (by first | omega | (simp only [length_bL, length_be, List.length_cons, List.length_nil]; omega)) (by first | omega | (simp only [length_bL, length_be, List.length_cons, List.length_nil]; omega))
                                replace rE1 := kS.rputmo rE1 (by first | omega | (simp only [length_bL, length_be, List.length_cons, List.length_nil]; omega)) (by first | omega | (simp only [length_bL, length_be, List.length_cons, List.length_nil]; omega))
                                replace rE2 := kS.rputmo rE2 (by first | omega | (simp only [length_bL, length_be, List.length_cons, List.length_nil]; omega)) (by first | omega | (simp only [length_bL, length_be, List.length_cons, List.length_nil]; omega))
                                replace rE3 := kS.rputmo rE3 (by first | omega | (simp only [length_bL, length_be, List.length_cons, List.length_nil]; omega)) (by first | omega | (simp only [length_bL, length_be, List.length_cons, List.length_nil]; omega))
                                replace rE4 := kS.rputmo rE4 (by first | omega | (simp only [length_bL, length_be, List.length_cons, List.length_nil]; omega)) (by first | omega | (simp only [length_bL, length_be, List.length_cons, List.length_nil]; omega))
                                replace rE5 := kS.rputmo rE5 (by first | omega | (simp only [length_bL, length_be, List.length_cons, List.length_nil]; omega)) (by first | omega | (simp only [length_bL, length_be, List.length_cons, List.length_nil]; omega))
                                replace rE6 := kS.rputmo rE6 (by first | omega | (simp only [length_bL, length_be, List.length_cons, List.length_nil]; omega)) (by first | omega | (simp only [length_bL, length_be, List.length_cons, List.length_nil]; omega))
                                refine l_nil ?_
                                refine hK44 _ _ ?_
                                refine fg4 3 5 7 8 (gS rfl (gS rfl (gS rfl (gS rfl (gS rfl (gS rfl (gS rfl (gS rfl g0)))))))) (gS rfl (gS rfl (gS rfl (gS rfl (gS rfl (gS rfl (gS rfl g0))))))) (gS rfl (gS rfl (gS rfl (gS rfl (gS rfl (gS rfl g0)))))) (gS rfl (gS rfl (gS rfl (gS rfl (gS rfl g0))))) (fun g => ?_)
                                refine c_seq (fun K46 hK46 => ?_)
                                exact (by
                                  refine c_region ?_
                                  refine l_step (y_moveV (et (gS rfl (gS rfl g0)) rfl)) ?_
                                  refine l_step (y_nil (et g0 rfl)) ?_
                                  refine l_step (y_fld fld_102_1 (et g0 rfl)) ?_
                                  have rl47 := RowIn.le rS (Nat.succ_pos _)
                                  simp only [List.length_cons, List.length_nil, Nat.zero_add, Nat.reduceAdd] at rl47
                                  refine l_effN (e_store sz_99 (et g0 rfl) (cellsV rfl rfl) rfl (by first | exact one_bL _ | exact one_uL _ | (intro v hv; simp at hv; subst hv; rfl)) kS (by first | exact Nat.le_trans (by omega) rl47 | exact Nat.le_of_ble_eq_true rfl | (simp; done) | (simp; omega) | omega | (simp only [size_spl, Array.size_setIfInBounds, hs.size]; exact Nat.le_of_ble_eq_true rfl))) (fun v47 w47 h47 => ?_)
                                  obtain ⟨rfl, x47⟩ := h47
                                  replace k2 := k2.ch x47.ch (by omega)
                                  replace k12 := k12.ch x47.ch (by omega)
                                  replace k22 := k22.ch x47.ch (by omega)
                                  replace kS := x47.blk
                                  replace G := G.wr x47 (.inl (by first | rfl | (simp; done))) nbS
                                  replace hF := G.fz
                                  replace U := U.st x47 (.inl (by first | rfl | (simp; done)))
                                  replace eC := kS.eput eC (by omega)
                                  replace rS : RowIn _ _ [.slice aa s.now.accts.length ac, .slice wa s.now.warmA.length wc, .slice sa s.now.warmS.length sc, vr, .slice la s.now.logs.length lc, .slice ta s.now.temps.length tc, .slice ma s.now.made.length mc, .slice ga s.now.gone.length gc, .slice none 0 0, .slice none 0 0, .slice ra s.ret.length rc, .int .u8 (s.phase : Nat), .int .u8 (s.status : Nat), .int .u8 ((s.applied + 1 : Nat) : Int), .slice sa35 sn35 sc35, .slice sa40 sn40 sc40, vleft, .slice sa43 sn43 sc43, vtot] := kS.rput rS 8 rfl
                                  replace rOr := kS.rputo rOr (by first | (left; omega) | (right; simp only [List.length_cons, List.length_nil, length_bL, length_be]; omega))
                                  replace rMd := kS.rputo rMd (by first | (left; omega) | (right; simp only [List.length_cons, List.length_nil, length_bL, length_be]; omega))
                                  replace rE1 := kS.rputo rE1 (by first | (left; omega) | (right; simp only [List.length_cons, List.length_nil, length_bL, length_be]; omega))
                                  replace rE2 := kS.rputo rE2 (by first | (left; omega) | (right; simp only [List.length_cons, List.length_nil, length_bL, length_be]; omega))
                                  replace rE3 := kS.rputo rE3 (by first | (left; omega) | (right; simp only [List.length_cons, List.length_nil, length_bL, length_be]; omega))
                                  replace rE4 := kS.rputo rE4 (by first | (left; omega) | (right; simp only [List.length_cons, List.length_nil, length_bL, length_be]; omega))
                                  replace rE5 := kS.rputo rE5 (by first | (left; omega) | (right; simp only [List.length_cons, List.length_nil, length_bL, length_be]; omega))
                                  replace rE6 := kS.rputo rE6 (by first | (left; omega) | (right; simp only [List.length_cons, List.length_nil, length_bL, length_be]; omega))
                                  refine l_nil ?_
                                  refine hK46 _ _ ?_
                                  refine fg4 3 5 7 8 (gS rfl (gS rfl (gS rfl (gS rfl (gS rfl (gS rfl g0)))))) (gS rfl (gS rfl (gS rfl (gS rfl (gS rfl g0))))) (gS rfl (gS rfl (gS rfl (gS rfl g0)))) (gS rfl (gS rfl (gS rfl g0))) (fun g => ?_)
                                  refine c_seq (fun K48 hK48 => ?_)
                                  refine c_seq (fun K49 hK49 => ?_)
                                  exact (by
                                    refine c_region ?_
                                    refine l_step (y_moveV (et (gS rfl (gS rfl g0)) rfl)) ?_
                                    refine l_step (y_nil (et g0 rfl)) ?_
                                    refine l_step (y_fld fld_102_0 (et g0 rfl)) ?_
                                    refine l_step (y_fld fld_98_0 (et g0 rfl)) ?_
                                    refine l_step (y_load1 one_92 (et g0 rfl) (at1 (kS.cell (rS 0 _ rfl)))) ?_
                                    refine l_step (y_len Hvaa.underlying92 (et g0 rfl)) ?_
                                    refine l_step y_moveC ?_
                                    refine l_nil ?_
                                    refine hK49 _ _ ?_
                                    refine fg7 3 5 7 8 94 95 96 (gS rfl (gS rfl (gS rfl (gS rfl (gS rfl (gS rfl (gS rfl (gS rfl (gS rfl (gS rfl g0)))))))))) (gS rfl (gS rfl (gS rfl (gS rfl (gS rfl (gS rfl (gS rfl (gS rfl (gS rfl g0))))))))) (gS rfl (gS rfl (gS rfl (gS rfl (gS rfl (gS rfl (gS rfl (gS rfl g0)))))))) (gS rfl (gS rfl (gS rfl (gS rfl (gS rfl (gS rfl (gS rfl g0))))))) (gS rfl (gS rfl g0)) (gS rfl g0) g0 (fun g => ?_)
                                    refine c_block (fun Q50 hQ50 => ?_)
                                    refine fg7 3 5 7 8 94 95 96 (gS rfl (gS rfl (gS rfl (gS rfl (gS rfl (gS rfl g0)))))) (gS rfl (gS rfl (gS rfl (gS rfl (gS rfl g0))))) (gS rfl (gS rfl (gS rfl (gS rfl g0)))) (gS rfl (gS rfl (gS rfl g0))) (gS rfl (gS rfl g0)) (gS rfl g0) g0 (fun g => ?_)
                                    obtain ⟨csB, kS, rS, rOr, rMd, rE1, rE2, rE3, rE4, rE5, rE6, eC, hszB⟩ := pack9 kS rS rOr rMd rE1 rE2 rE3 rE4 rE5 rE6 eC (by simp only [size_spl, Array.size_setIfInBounds]; exact hs.size)
                                    have hc8 := rS 8 _ rfl
                                    replace kS : Blk w47 bs (csB.setIfInBounds (0 + 8) (.slice none 0 0)) := by rw [set_self hc8]; exact kS
                                    obtain ⟨base, hbs⟩ : ∃ base, base = w47.heap.size := ⟨_, rfl⟩
                                    have hbw : w.heap.size ≤ base := by rw [hbs]; exact U.size
                                    have hbS : bs < base := by omega
                                    have hb3 : b2 < base := by rw [hbs]; exact k2.lt
                                    have hb7 : b12 < base := by rw [hbs]; exact k12.lt
                                    have hb8 : b22 < base := by rw [hbs]; exact k22.lt
                                    have hHb0 : ∀ q, Store.has _ q → q < base := fun q hq => by rw [hbs]; exact hF.lt hq
                                    refine c_loop (fun k_ s_ W51 => ∃ (g : Nat → Value) (Hk51 : Store) (vt : Value) (i : Nat), s_ = (upd (upd (upd (upd (upd (upd (upd g 3 (.pointer (some ⟨b2, 0, none⟩))) 5 (.pointer (some ⟨bs, 0, none⟩))) 7 (.pointer (some ⟨b12, 0, none⟩))) 8 (.pointer (some ⟨b22, 0, none⟩))) 94 (.slice aa s.now.accts.length ac)) 95 (.int .i64 (s.now.accts.length : Nat))) 96 (.int .i64 (i : Nat))) ∧ s.now.accts.length - i = k_ ∧ (i ≤ s.now.accts.length) ∧ (GL P_tri H base 139 22 W51.heap.size W51 vt (startL (s.now.accts.take i))) ∧ (∀ q, Hk51.has q → q < base) ∧ Blk W51 bs (csB.setIfInBounds (0 + 8) vt) ∧ Go (fun k => k = bs ∨ base ≤ k) w47 H42 W51 Hk51) (s.now.accts.length - (0)) ?_ ?_
                                    · exact ⟨g, _, (.slice none 0 0), 0, rfl, rfl, Nat.zero_le _, by rw [List.take_zero]; exact GL.nil, hHb0, kS, Go.refl hF⟩
                                    · skip
                                      intro k_ s_ W51 hI K51 hK51
                                      obtain ⟨g, Hk51, vt, i, rfl, rfl, hi9, hO, hHb, nkS, V51⟩ := hI
                                      have hle51 := V51.le
                                      replace nb2 := V51.nb nb2 k2.lt
                                      replace nb12 := V51.nb nb12 k12.lt
                                      replace nb22 := V51.nb nb22 k22.lt
                                      replace nbS := V51.nb nbS kS.lt
                                      replace pa10 := pa10.mono hle51
                                      replace n34 := n34.mono hle51
                                      replace n38 := n38.mono hle51
                                      replace n39 := n39.mono hle51
                                      replace hsP := hsP.mono hle51
                                      replace n42 := n42.mono hle51
                                      replace hL0 := hL0.trans hle51
                                      replace G := G.trans V51 (by intro b hb; first | exact hb.elim | omega | (simp at hb ⊢; omega))
                                      replace hF := V51.fz
                                      replace k2 := k2.ch V51.ch (by omega)
                                      replace k12 := k12.ch V51.ch (by omega)
                                      replace k22 := k22.ch V51.ch (by omega)
                                      replace kS := nkS
                                      replace U := U.cc V51.ch (by intro b hb; first | exact hb.elim | omega | (simp at hb ⊢; omega))
                                      have hbW : base ≤ W51.heap.size := by rw [hbs]; exact V51.ch.size
                                      refine c_seq (fun K52 hK52 => ?_)
                                      exact (by
                                        refine c_region ?_
                                        refine l_step (y_lss (et g0 rfl) (et (gS rfl g0) rfl)) ?_
                                        refine l_nil ?_
                                        refine hK52 _ _ ?_
                                        refine c_seq (fun K53 hK53 => ?_)
                                        refine c_cond (et g0 rfl) (fun cB3 => ?_) (fun cB3 => ?_)
                                        · skip
                                          
                                          have hil : i < s.now.accts.length := by have := of_decide_eq_true cB3; omega
                                          refine c_skip ?_
                                          refine hK53 _ _ ?_
                                          refine fg7 3 5 7 8 94 95 96 (gS rfl (gS rfl (gS rfl (gS rfl (gS rfl (gS rfl (gS rfl g0))))))) (gS rfl (gS rfl (gS rfl (gS rfl (gS rfl (gS rfl g0)))))) (gS rfl (gS rfl (gS rfl (gS rfl (gS rfl g0))))) (gS rfl (gS rfl (gS rfl (gS rfl g0)))) (gS rfl (gS rfl (gS rfl g0))) (gS rfl (gS rfl g0)) (gS rfl g0) (fun g => ?_)
                                          refine c_seq (fun K55 hK55 => ?_)
                                          refine c_block (fun Q56 hQ56 => ?_)
                                          refine c_seq (fun K57 hK57 => ?_)
                                          exact (by
                                            refine c_region ?_
                                            have hF9 := hF.le9 hL0
                                            obtain ⟨bq, oq, r, ha0, hrow, hrl, hPA⟩ := hAc.row hF9 (i := i) hil
                                            have hPone := acct_one hPA
                                            obtain ⟨vn1, vb1, vc1, vs1, hr1, hal, hnn1, hbb1, hcd1, hvs, hb21, hb22, hb23⟩ := hPA
                                            rw [hr1] at hrow hrl hPone
                                            obtain ⟨sva, svc, rfl, hsv1, hsv2⟩ := hvs.val
                                            refine l_step (y_idxSa ha0 Hvaa.underlying92 sz_107 (et (gS rfl (gS rfl g0)) rfl) (et g0 rfl) ?_) ?_
                                            omega
                                            refine l_step (y_loadR agg_107 sz_107 (et g0 rfl) hrl (at1R hrow)) ?_
                                            refine l_eff (e_alloc zr_107) (fun v58 w58 h58 => ?_)
                                            obtain ⟨b58, rfl, n58⟩ := h58
                                            have d2_58 : b2 < b58 := Nat.lt_of_lt_of_le k2.lt n58.fresh
                                            have d12_58 : b12 < b58 := Nat.lt_of_lt_of_le k12.lt n58.fresh
                                            have d22_58 : b22 < b58 := Nat.lt_of_lt_of_le k22.lt n58.fresh
                                            have f58 : w.heap.size ≤ b58 := Nat.le_trans U.size n58.fresh
                                            have nb58 := hF.nb n58.fresh
                                            have fV51_58 := Nat.le_trans V51.ch.size n58.fresh
                                            replace G := G.tr (Go.ofUp hF n58.up)
                                            replace V51 := V51.tr (Go.ofUp hF n58.up)
                                            replace hF := hF.up n58.up
                                            replace k2 := k2.up n58.up
                                            replace k12 := k12.up n58.up
                                            replace k22 := k22.up n58.up
                                            replace kS := kS.up n58.up
                                            replace hO := hO.up n58.up
                                            replace U := U.tr n58.up
                                            have k58 := n58.blk
                                            have hb11 := n58.fresh
                                            refine l_effN (e_store sz_107 (et g0 rfl) (cellsV (et (gS rfl g0) rfl) rfl) hrl (by exact hPone) k58 (by exact Nat.le_of_ble_eq_true rfl)) (fun v59 w59 h59 => ?_)
                                            obtain ⟨rfl, x59⟩ := h59
                                            replace k2 := k2.ch x59.ch (by omega)
                                            replace k12 := k12.ch x59.ch (by omega)
                                            replace k22 := k22.ch x59.ch (by omega)
                                            replace kS := kS.ch x59.ch (by first | omega | (first | omega | exact hOo.ne (by omega)))
                                            replace k58 := x59.blk.full (by rw [hrl]; rfl)
                                            replace hO := hO.wr x59 (by first | omega | (right; omega))
                                            replace G := G.wr x59 (by first | exact .inr f58 | omega | (simp; omega)) nb58
                                            replace V51 := V51.wr x59 (by first | exact .inr f58 | omega | (simp; omega)) nb58
                                            replace hF := G.fz
                                            replace U := U.st x59 (.inr f58)
                                            refine l_nil ?_
                                            refine hK57 _ _ ?_
                                            refine fg8 3 5 7 8 94 95 96 10 (gS rfl (gS rfl (gS rfl (gS rfl (gS rfl (gS rfl (gS rfl (gS rfl (gS rfl g0))))))))) (gS rfl (gS rfl (gS rfl (gS rfl (gS rfl (gS rfl (gS rfl (gS rfl g0)))))))) (gS rfl (gS rfl (gS rfl (gS rfl (gS rfl (gS rfl (gS rfl g0))))))) (gS rfl (gS rfl (gS rfl (gS rfl (gS rfl (gS rfl g0)))))) (gS rfl (gS rfl (gS rfl (gS rfl (gS rfl g0))))) (gS rfl (gS rfl (gS rfl (gS rfl g0)))) (gS rfl (gS rfl (gS rfl g0))) g0 (fun g => ?_)
                                            refine c_seq (fun K60 hK60 => ?_)
                                            exact (by
                                              refine c_region ?_
                                              refine l_step (y_fld fld_107_4 (et g0 rfl)) ?_
                                              refine l_step (y_load1 one_105 (et g0 rfl) (at1 (k58.cell ((app20 (i := 3) rfl).trans rfl)))) ?_
                                              have hn10a : ¬ some b58 = vt.ownBlock := hO.ne (by omega)
                                              refine l_step (y_len Hvaa.underlying105 (et g0 rfl)) ?_
                                              refine l_step y_moveC ?_
                                              refine l_nil ?_
                                              refine hK60 _ _ ?_
                                              refine fg11 3 5 7 8 94 95 96 10 101 102 103 (gS rfl (gS rfl (gS rfl (gS rfl (gS rfl (gS rfl (gS rfl (gS rfl (gS rfl (gS rfl (gS rfl g0))))))))))) (gS rfl (gS rfl (gS rfl (gS rfl (gS rfl (gS rfl (gS rfl (gS rfl (gS rfl (gS rfl g0)))))))))) (gS rfl (gS rfl (gS rfl (gS rfl (gS rfl (gS rfl (gS rfl (gS rfl (gS rfl g0))))))))) (gS rfl (gS rfl (gS rfl (gS rfl (gS rfl (gS rfl (gS rfl (gS rfl g0)))))))) (gS rfl (gS rfl (gS rfl (gS rfl (gS rfl (gS rfl (gS rfl g0))))))) (gS rfl (gS rfl (gS rfl (gS rfl (gS rfl (gS rfl g0)))))) (gS rfl (gS rfl (gS rfl (gS rfl (gS rfl g0))))) (gS rfl (gS rfl (gS rfl (gS rfl g0)))) (gS rfl (gS rfl g0)) (gS rfl g0) g0 (fun g => ?_)
                                              refine c_block (fun Q61 hQ61 => ?_)
                                              refine fg11 3 5 7 8 10 94 95 96 101 102 103 (gS rfl (gS rfl (gS rfl (gS rfl (gS rfl (gS rfl (gS rfl (gS rfl (gS rfl (gS rfl g0)))))))))) (gS rfl (gS rfl (gS rfl (gS rfl (gS rfl (gS rfl (gS rfl (gS rfl (gS rfl g0))))))))) (gS rfl (gS rfl (gS rfl (gS rfl (gS rfl (gS rfl (gS rfl (gS rfl g0)))))))) (gS rfl (gS rfl (gS rfl (gS rfl (gS rfl (gS rfl (gS rfl g0))))))) (gS rfl (gS rfl (gS rfl g0))) (gS rfl (gS rfl (gS rfl (gS rfl (gS rfl (gS rfl g0)))))) (gS rfl (gS rfl (gS rfl (gS rfl (gS rfl g0))))) (gS rfl (gS rfl (gS rfl (gS rfl g0)))) (gS rfl (gS rfl g0)) (gS rfl g0) g0 (fun g => ?_)
                                              have hb10 : base ≤ b58 := by have := n58.fresh; omega
                                              have hlt10 := k58.lt
                                              refine c_loop (fun k_ s_ W62 => ∃ (g : Nat → Value) (Hk62 : Store) (vt2 : Value) (j : Nat), s_ = (upd (upd (upd (upd (upd (upd (upd (upd (upd (upd (upd g 3 (.pointer (some ⟨b2, 0, none⟩))) 5 (.pointer (some ⟨bs, 0, none⟩))) 7 (.pointer (some ⟨b12, 0, none⟩))) 8 (.pointer (some ⟨b22, 0, none⟩))) 10 (.pointer (some ⟨b58, 0, none⟩))) 94 (.slice aa s.now.accts.length ac)) 95 (.int .i64 (s.now.accts.length : Nat))) 96 (.int .i64 (i : Nat))) 101 (.slice sva s.now.accts[i].slots.length svc)) 102 (.int .i64 (s.now.accts[i].slots.length : Nat))) 103 (.int .i64 (j : Nat))) ∧ s.now.accts[i].slots.length - j = k_ ∧ (j ≤ s.now.accts[i].slots.length) ∧ (GL P_tri H base 139 22 W62.heap.size W62 vt2 (startL (s.now.accts.take i) ++ (s.now.accts[i].slots.take j).map (fun x => (s.now.accts[i].addr, x.1, x.2)))) ∧ (∀ q, Hk62.has q → q < base) ∧ (¬ some b58 = vt2.ownBlock) ∧ Blk W62 bs (csB.setIfInBounds (0 + 8) vt2) ∧ Go (fun k => k = bs ∨ (base ≤ k ∧ k ≠ b58)) w59 Hk51 W62 Hk62) (s.now.accts[i].slots.length - (0)) ?_ ?_
                                              · exact ⟨g, _, _, 0, rfl, rfl, Nat.zero_le _, by rw [List.take_zero, List.map_nil, List.append_nil]; exact hO.mono (by have h1 := n58.fresh; have h2 := k58.lt; omega), hHb, hn10a, kS, Go.refl hF⟩
                                              · skip
                                                intro k_ s_ W62 hI K62 hK62
                                                obtain ⟨g, Hk62, vt2, j, rfl, rfl, hj, hO, hHb, hn10, nkS, V62⟩ := hI
                                                have hle62 := V62.le
                                                replace nb2 := V62.nb nb2 k2.lt
                                                replace nb12 := V62.nb nb12 k12.lt
                                                replace nb22 := V62.nb nb22 k22.lt
                                                replace nb58 := V62.nb nb58 k58.lt
                                                replace nbS := V62.nb nbS kS.lt
                                                replace pa10 := pa10.mono hle62
                                                replace n34 := n34.mono hle62
                                                replace n38 := n38.mono hle62
                                                replace n39 := n39.mono hle62
                                                replace hsP := hsP.mono hle62
                                                replace n42 := n42.mono hle62
                                                replace hL0 := hL0.trans hle62
                                                replace G := G.trans V62 (by intro b hb; first | exact hb.elim | omega | (simp at hb ⊢; omega))
                                                replace V51 := V51.trans V62 (by intro b hb; first | exact hb.elim | omega | (simp at hb ⊢; omega))
                                                replace hF := V62.fz
                                                replace k2 := k2.ch V62.ch (by omega)
                                                replace k12 := k12.ch V62.ch (by omega)
                                                replace k22 := k22.ch V62.ch (by omega)
                                                replace k58 := k58.ch V62.ch (by omega)
                                                replace kS := nkS
                                                replace U := U.cc V62.ch (by intro b hb; first | exact hb.elim | omega | (simp at hb ⊢; omega))
                                                have hbW2 : base ≤ W62.heap.size := by have h1 := V62.ch.size; omega
                                                refine c_seq (fun K63 hK63 => ?_)
                                                exact (by
                                                  refine c_region ?_
                                                  refine l_step (y_lss (et g0 rfl) (et (gS rfl g0) rfl)) ?_
                                                  refine l_nil ?_
                                                  refine hK63 _ _ ?_
                                                  refine c_seq (fun K64 hK64 => ?_)
                                                  refine c_cond (et g0 rfl) (fun cB4 => ?_) (fun cB4 => ?_)
                                                  · skip
                                                    
                                                    have hjl : j < s.now.accts[i].slots.length := by have := of_decide_eq_true cB4; omega
                                                    refine c_skip ?_
                                                    refine hK64 _ _ ?_
                                                    refine fg11 3 5 7 8 10 94 95 96 101 102 103 (gS rfl (gS rfl (gS rfl (gS rfl (gS rfl (gS rfl (gS rfl (gS rfl (gS rfl (gS rfl (gS rfl g0))))))))))) (gS rfl (gS rfl (gS rfl (gS rfl (gS rfl (gS rfl (gS rfl (gS rfl (gS rfl (gS rfl g0)))))))))) (gS rfl (gS rfl (gS rfl (gS rfl (gS rfl (gS rfl (gS rfl (gS rfl (gS rfl g0))))))))) (gS rfl (gS rfl (gS rfl (gS rfl (gS rfl (gS rfl (gS rfl (gS rfl g0)))))))) (gS rfl (gS rfl (gS rfl (gS rfl (gS rfl (gS rfl (gS rfl g0))))))) (gS rfl (gS rfl (gS rfl (gS rfl (gS rfl (gS rfl g0)))))) (gS rfl (gS rfl (gS rfl (gS rfl (gS rfl g0))))) (gS rfl (gS rfl (gS rfl (gS rfl g0)))) (gS rfl (gS rfl (gS rfl g0))) (gS rfl (gS rfl g0)) (gS rfl g0) (fun g => ?_)
                                                    refine c_seq (fun K66 hK66 => ?_)
                                                    refine c_block (fun Q67 hQ67 => ?_)
                                                    refine c_seq (fun K68 hK68 => ?_)
                                                    exact (by
                                                      refine c_region ?_
                                                      obtain ⟨bq2, oq2, r2, ha2, hrow2, hrl2, vk1, vv1, hr2, hk1, hv1, hkl, hvl9⟩ := hvs.row (hF.le9 hL0) (i := j) hjl
                                                      rw [hr2] at hrow2 hrl2
                                                      refine l_step (y_idxSa ha2 Hvaa.underlying105 sz_115 (et (gS rfl (gS rfl g0)) rfl) (et g0 rfl) ?_) ?_
                                                      omega
                                                      refine l_step (y_loadR agg_115 sz_115 (et g0 rfl) rfl (at1R hrow2)) ?_
                                                      refine l_eff (e_alloc zr_115) (fun v69 w69 h69 => ?_)
                                                      obtain ⟨b69, rfl, n69⟩ := h69
                                                      have d2_69 : b2 < b69 := Nat.lt_of_lt_of_le k2.lt n69.fresh
                                                      have d12_69 : b12 < b69 := Nat.lt_of_lt_of_le k12.lt n69.fresh
                                                      have d22_69 : b22 < b69 := Nat.lt_of_lt_of_le k22.lt n69.fresh
                                                      have d58_69 : b58 < b69 := Nat.lt_of_lt_of_le k58.lt n69.fresh
                                                      have f69 : w.heap.size ≤ b69 := Nat.le_trans U.size n69.fresh
                                                      have nb69 := hF.nb n69.fresh
                                                      have fV51_69 := Nat.le_trans V51.ch.size n69.fresh
                                                      have fV62_69 := Nat.le_trans V62.ch.size n69.fresh
                                                      replace G := G.tr (Go.ofUp hF n69.up)
                                                      replace V51 := V51.tr (Go.ofUp hF n69.up)
                                                      replace V62 := V62.tr (Go.ofUp hF n69.up)
                                                      replace hF := hF.up n69.up
                                                      replace k2 := k2.up n69.up
                                                      replace k12 := k12.up n69.up
                                                      replace k22 := k22.up n69.up
                                                      replace k58 := k58.up n69.up
                                                      replace kS := kS.up n69.up
                                                      replace hO := hO.up n69.up
                                                      replace U := U.tr n69.up
                                                      have k69 := n69.blk
                                                      have hb12 := n69.fresh
                                                      refine l_effN (e_store sz_115 (et g0 rfl) (cellsV (et (gS rfl g0) rfl) rfl) rfl (by exact one_two hk1.one1 hv1.one1) k69 (by exact Nat.le_of_ble_eq_true rfl)) (fun v70 w70 h70 => ?_)
                                                      obtain ⟨rfl, x70⟩ := h70
                                                      replace k2 := k2.ch x70.ch (by omega)
                                                      replace k12 := k12.ch x70.ch (by omega)
                                                      replace k22 := k22.ch x70.ch (by omega)
                                                      replace k58 := k58.ch x70.ch (by omega)
                                                      replace kS := kS.ch x70.ch (by first | omega | (first | omega | exact hOo.ne (by omega)))
                                                      replace k69 := x70.blk.full rfl
                                                      replace hO := hO.wr x70 (by first | omega | (right; omega))
                                                      replace G := G.wr x70 (by first | exact .inr f69 | omega | (simp; omega)) nb69
                                                      replace V51 := V51.wr x70 (by first | exact .inr f69 | omega | (simp; omega)) nb69
                                                      replace V62 := V62.wr x70 (by first | exact .inr f69 | omega | (simp; omega)) nb69
                                                      replace hF := G.fz
                                                      replace U := U.st x70 (.inr f69)
                                                      refine l_nil ?_
                                                      refine hK68 _ _ ?_
                                                      refine fg12 3 5 7 8 10 94 95 96 101 102 103 12 (gS rfl (gS rfl (gS rfl (gS rfl (gS rfl (gS rfl (gS rfl (gS rfl (gS rfl (gS rfl (gS rfl (gS rfl (gS rfl g0))))))))))))) (gS rfl (gS rfl (gS rfl (gS rfl (gS rfl (gS rfl (gS rfl (gS rfl (gS rfl (gS rfl (gS rfl (gS rfl g0)))))))))))) (gS rfl (gS rfl (gS rfl (gS rfl (gS rfl (gS rfl (gS rfl (gS rfl (gS rfl (gS rfl (gS rfl g0))))))))))) (gS rfl (gS rfl (gS rfl (gS rfl (gS rfl (gS rfl (gS rfl (gS rfl (gS rfl (gS rfl g0)))))))))) (gS rfl (gS rfl (gS rfl (gS rfl (gS rfl (gS rfl (gS rfl (gS rfl (gS rfl g0))))))))) (gS rfl (gS rfl (gS rfl (gS rfl (gS rfl (gS rfl (gS rfl (gS rfl g0)))))))) (gS rfl (gS rfl (gS rfl (gS rfl (gS rfl (gS rfl (gS rfl g0))))))) (gS rfl (gS rfl (gS rfl (gS rfl (gS rfl (gS rfl g0)))))) (gS rfl (gS rfl (gS rfl (gS rfl (gS rfl g0))))) (gS rfl (gS rfl (gS rfl (gS rfl g0)))) (gS rfl (gS rfl (gS rfl g0))) g0 (fun g => ?_)
                                                      refine c_draw (Ch (fun k => some k = vt2.ownBlock)) 16 [(0, true), (1, true), (2, true), (3, true), (4, true), (5, true), (6, true), (7, true), (8, true), (9, true), (10, true), (11, true), (12, false), (13, false), (14, true), (15, true), (16, false)] (by kernel_rfl) (fun w71 hu => ⟨Ch.refl _ _, ?_⟩)
                                                      replace G := G.tr (Go.ofUp hF hu)
                                                      replace V51 := V51.tr (Go.ofUp hF hu)
                                                      replace V62 := V62.tr (Go.ofUp hF hu)
                                                      replace hF := hF.up hu
                                                      replace k2 := k2.up hu
                                                      replace k12 := k12.up hu
                                                      replace k22 := k22.up hu
                                                      replace k58 := k58.up hu
                                                      replace k69 := k69.up hu
                                                      replace kS := kS.up hu
                                                      replace hO := hO.up hu
                                                      replace U := U.tr hu
                                                      have SU : (Ch (fun k => some k = vt2.ownBlock)) w71 w71 := Ch.refl _ _
                                                      exact (by
                                                        refine p_step (by exact rfl) (y_moveV (et (gS rfl (gS rfl (gS rfl (gS rfl (gS rfl (gS rfl (gS rfl (gS rfl (gS rfl (gS rfl g0)))))))))) rfl)) ?_
                                                        refine p_step (by exact rfl) (y_moveV (et (gS rfl (gS rfl (gS rfl (gS rfl (gS rfl (gS rfl (gS rfl (gS rfl (gS rfl (gS rfl (gS rfl g0))))))))))) rfl)) ?_
                                                        refine p_step (by exact rfl) (y_nil (et g0 rfl)) ?_
                                                        refine p_step (by exact rfl) (y_fld fld_102_1 (et g0 rfl)) ?_
                                                        refine p_step (by exact rfl) (y_load1 one_99 (et g0 rfl) (atC (kS.cell (get_set8 hc8)) (by first | exact hn10 | exact hO.ne (by omega) | exact hOo.ne (by omega) | omega))) ?_
                                                        refine p_step (by exact rfl) (y_fld fld_107_0 (et (gS rfl (gS rfl (gS rfl (gS rfl (gS rfl (gS rfl (gS rfl (gS rfl (gS rfl (gS rfl (gS rfl (gS rfl g0)))))))))))) rfl)) ?_
                                                        refine p_step (by exact rfl) (y_loadR agg_25 sz_25 (et g0 rfl) (by rw [length_bL, length_be]) (atCR (k58.row (RowIn.app _ _)) (by first | exact hn10 | exact hO.ne (by omega) | exact hOo.ne (by omega) | omega))) ?_
                                                        refine p_step (by exact rfl) (y_fld fld_115_0 (et (gS rfl (gS rfl (gS rfl (gS rfl (gS rfl (gS rfl (gS rfl g0))))))) rfl)) ?_
                                                        refine p_step (by exact rfl) (y_load1 one_95 (et g0 rfl) (atC (k69.cell (show _ = some vk1 from rfl)) (by first | exact hn10 | exact hO.ne (by omega) | exact hOo.ne (by omega) | omega))) ?_
                                                        refine p_step (by exact rfl) (y_fld fld_115_1 (et (gS rfl (gS rfl (gS rfl (gS rfl (gS rfl (gS rfl (gS rfl (gS rfl (gS rfl g0))))))))) rfl)) ?_
                                                        refine p_step (by exact rfl) (y_load1 one_95 (et g0 rfl) (atC (k69.cell (show _ = some vv1 from rfl)) (by first | exact hn10 | exact hO.ne (by omega) | exact hOo.ne (by omega) | omega))) ?_
                                                        have hb72 : ∀ w, (Instr.build 139 ([(0, (Value.agg (bL (be 20 s.now.accts[i].addr)).toArray)), (1, vk1), (2, vv1)] : List (Nat × Value)).toArray).run Hvaa.prog w = .ok (.agg ([(bL (be 20 s.now.accts[i].addr)), ([vk1]), ([vv1])] : List (List Value)).flatten.toArray) w := bld_run zr_139 plc_139 (fill_flat (off := 0) (k := 20) (f := (List.replicate 20 (.int .u8 0))) (c := bL (be 20 s.now.accts[i].addr)) (v := (Value.agg (bL (be 20 s.now.accts[i].addr)).toArray)) rfl rfl (by first | (simp [length_bL, length_be, length_uL]; done) | rfl) (by first | rfl | (simp [length_bL, length_be, length_uL]; done)) rfl (by first | (simp [length_bL, length_be, length_uL]; done) | rfl) (fill_flat (off := 20) (k := 1) (f := [.slice none 0 0]) (c := [vk1]) (v := vk1) rfl (cells_one hk1.one1) (by first | (simp [length_bL, length_be, length_uL]; done) | rfl) (by first | (simp [length_bL, length_be, length_uL]; done) | rfl) rfl (by first | (simp [length_bL, length_be, length_uL]; done) | rfl) (fill_flat (off := 21) (k := 1) (f := [.slice none 0 0]) (c := [vv1]) (v := vv1) rfl (cells_one hv1.one1) (by first | (simp [length_bL, length_be, length_uL]; done) | rfl) (by first | (simp [length_bL, length_be, length_uL]; done) | rfl) rfl (by first | (simp [length_bL, length_be, length_uL]; done) | rfl) (fill_nil _ _))))
                                                        refine p_step (by exact rfl) ((y_bld (bC (et (gS rfl (gS rfl (gS rfl (gS rfl g0)))) rfl) (bC (et (gS rfl (gS rfl g0)) rfl) (bC (et g0 rfl) bN))) hb72).to (congrArg (fun l : List Value => Value.agg l.toArray) (show _ = bL (be 20 s.now.accts[i].addr) ++ [vk1, vv1] by simp))) ?_
                                                        refine p_eff (by exact rfl) (e_slice1 Hvaa.underlying99 sz_139 zr_139 rfl (by decide) (et g0 rfl) (by rw [show (Value.agg ((bL (be 20 s.now.accts[i].addr) ++ [vk1, vv1])).toArray).cells = ((bL (be 20 s.now.accts[i].addr) ++ [vk1, vv1])).toArray from rfl, List.size_toArray, len22])) (fun v73 w73 h73 => ?_)
                                                        obtain ⟨b73, rfl, n73⟩ := h73
                                                        replace G := G.tr (Go.ofUp hF n73.up)
                                                        replace V51 := V51.tr (Go.ofUp hF n73.up)
                                                        replace V62 := V62.tr (Go.ofUp hF n73.up)
                                                        replace hF := hF.up n73.up
                                                        replace k2 := k2.up n73.up
                                                        replace k12 := k12.up n73.up
                                                        replace k22 := k22.up n73.up
                                                        replace k58 := k58.up n73.up
                                                        replace k69 := k69.up n73.up
                                                        replace kS := kS.up n73.up
                                                        replace hO := hO.up n73.up
                                                        replace U := U.tr n73.up
                                                        have kq73 : Blk w73 b73 ((bL (be 20 s.now.accts[i].addr) ++ [vk1, vv1])).toArray := n73.blk
                                                        refine ⟨.inr (SU.tr n73.up), ?_⟩
                                                        replace SU := SU.tr n73.up
                                                        have hbz : base ≤ w73.heap.size := by have h1 := V62.ch.size; omega
                                                        refine p_eff (by exact rfl) (e_appL Hvaa.underlying99 sz_139 zr_139 by_139 rfl (by decide) (et (gS rfl (gS rfl (gS rfl (gS rfl (gS rfl (gS rfl (gS rfl (gS rfl g0)))))))) rfl) hO (et g0 rfl) len22 kq73 (one_app (one_two hk1.one1 hv1.one1)) (tri_cells hk1 hv1 hal hkl hvl9) (by decide) (by have h8 := start_le (l := s.now.accts) (j := j) hil (f := (fun x => (s.now.accts[i].addr, x.1, x.2))); omega) hbz) (fun v74 w74 h74 => ?_)
                                                        obtain ⟨hO74, c74, hown74⟩ := h74
                                                        have hOo := hO
                                                        have hn10b := hown74 _ k58.lt hn10
                                                        replace G := G.chs c74 (by intro b hb; have h9 := hOo.lim b hb.symm; have h8 : b ≠ b58 := fun e => hn10 (e ▸ hb); first | exact .inr (by omega) | exact .inl (.inr (by omega)) | omega) (by intro q hq hh; have := hHb q hh; have := hOo.lim q hq.symm; omega)
                                                        replace V51 := V51.chs c74 (by intro b hb; have h9 := hOo.lim b hb.symm; have h8 : b ≠ b58 := fun e => hn10 (e ▸ hb); first | exact .inr (by omega) | exact .inl (.inr (by omega)) | omega) (by intro q hq hh; have := hHb q hh; have := hOo.lim q hq.symm; omega)
                                                        replace V62 := V62.chs c74 (by intro b hb; have h9 := hOo.lim b hb.symm; have h8 : b ≠ b58 := fun e => hn10 (e ▸ hb); first | exact .inr (by omega) | exact .inl (.inr (by omega)) | omega) (by intro q hq hh; have := hHb q hh; have := hOo.lim q hq.symm; omega)
                                                        replace hF := G.fz
                                                        replace k2 := k2.ch c74 (by first | omega | exact hn10 | exact hOo.ne (by omega))
                                                        replace k12 := k12.ch c74 (by first | omega | exact hn10 | exact hOo.ne (by omega))
                                                        replace k22 := k22.ch c74 (by first | omega | exact hn10 | exact hOo.ne (by omega))
                                                        replace k58 := k58.ch c74 (by first | omega | exact hn10 | exact hOo.ne (by omega))
                                                        replace k69 := k69.ch c74 (by first | omega | exact hn10 | exact hOo.ne (by omega))
                                                        replace kS := kS.ch c74 (by first | omega | exact hOo.ne (by omega))
                                                        replace hO := hO74
                                                        replace U := U.cc c74 (by intro b hb; have h9 := hOo.lim b hb.symm; have h8 : b ≠ b58 := fun e => hn10 (e ▸ hb); first | exact .inr (by omega) | exact .inl (.inr (by omega)) | omega)
                                                        replace SU := SU.cc c74 (by intro b hb; first | exact .inl hb | exact hb.elim | omega | (have h9 := hOo.lim b hb.symm; first | exact .inl (by omega) | omega))
                                                        refine ⟨.inr SU, ?_⟩
                                                        exact (by
                                                          refine p_step (by exact rfl) (y_nil (et (gS rfl (gS rfl (gS rfl (gS rfl (gS rfl (gS rfl (gS rfl (gS rfl (gS rfl (gS rfl (gS rfl (gS rfl (gS rfl g0))))))))))))) rfl)) ?_
                                                          refine p_step (by exact rfl) (y_fld fld_102_1 (et g0 rfl)) ?_
                                                          refine p_effN (by exact rfl) (e_store sz_99 (et g0 rfl) (cellsV (et (gS rfl (gS rfl g0)) rfl) (cells_one hO.one1)) rfl (by exact one_sgl hO.one1) kS (by (rw [Array.size_setIfInBounds, hszB]; decide))) (fun v75 w75 h75 => ?_)
                                                          obtain ⟨rfl, x75⟩ := h75
                                                          replace k2 := k2.ch x75.ch (by omega)
                                                          replace k12 := k12.ch x75.ch (by omega)
                                                          replace k22 := k22.ch x75.ch (by omega)
                                                          replace k58 := k58.ch x75.ch (by omega)
                                                          replace k69 := k69.ch x75.ch (by omega)
                                                          replace kS := x75.blk
                                                          replace hO := hO.wr x75 (by omega)
                                                          replace G := G.wr x75 (.inl (by first | rfl | (simp; done))) nbS
                                                          replace V51 := V51.wr x75 (.inl (by first | rfl | (simp; done))) nbS
                                                          replace V62 := V62.wr x75 (.inl (by first | rfl | (simp; done))) nbS
                                                          replace hF := G.fz
                                                          replace U := U.st x75 (.inl (by first | rfl | (simp; done)))
                                                          refine ⟨.inl rfl, ?_⟩
                                                          replace kS : Blk w75 bs (csB.setIfInBounds (0 + 8) v74) := by rw [← set_set (x := vt2)]; exact kS
                                                          refine p_nil ?_
                                                          refine hQ67 _ _ _ (in_normal ?_)
                                                          refine hK66 _ _ ?_
                                                          refine fg11 3 5 7 8 10 94 95 96 101 102 103 (gS rfl (gS rfl (gS rfl (gS rfl (gS rfl (gS rfl (gS rfl (gS rfl (gS rfl (gS rfl (gS rfl (gS rfl (gS rfl (gS rfl (gS rfl (gS rfl (gS rfl (gS rfl (gS rfl (gS rfl (gS rfl (gS rfl (gS rfl (gS rfl (gS rfl (gS rfl (gS rfl g0))))))))))))))))))))))))))) (gS rfl (gS rfl (gS rfl (gS rfl (gS rfl (gS rfl (gS rfl (gS rfl (gS rfl (gS rfl (gS rfl (gS rfl (gS rfl (gS rfl (gS rfl (gS rfl (gS rfl (gS rfl (gS rfl (gS rfl (gS rfl (gS rfl (gS rfl (gS rfl (gS rfl (gS rfl g0)))))))))))))))))))))))))) (gS rfl (gS rfl (gS rfl (gS rfl (gS rfl (gS rfl (gS rfl (gS rfl (gS rfl (gS rfl (gS rfl (gS rfl (gS rfl (gS rfl (gS rfl (gS rfl (gS rfl (gS rfl (gS rfl (gS rfl (gS rfl (gS rfl (gS rfl (gS rfl (gS rfl g0))))))))))))))))))))))))) (gS rfl (gS rfl (gS rfl (gS rfl (gS rfl (gS rfl (gS rfl (gS rfl (gS rfl (gS rfl (gS rfl (gS rfl (gS rfl (gS rfl (gS rfl (gS rfl (gS rfl (gS rfl (gS rfl (gS rfl (gS rfl (gS rfl (gS rfl (gS rfl g0)))))))))))))))))))))))) (gS rfl (gS rfl (gS rfl (gS rfl (gS rfl (gS rfl (gS rfl (gS rfl (gS rfl (gS rfl (gS rfl (gS rfl (gS rfl (gS rfl (gS rfl (gS rfl (gS rfl (gS rfl (gS rfl (gS rfl (gS rfl (gS rfl (gS rfl g0))))))))))))))))))))))) (gS rfl (gS rfl (gS rfl (gS rfl (gS rfl (gS rfl (gS rfl (gS rfl (gS rfl (gS rfl (gS rfl (gS rfl (gS rfl (gS rfl (gS rfl (gS rfl (gS rfl (gS rfl (gS rfl (gS rfl (gS rfl (gS rfl g0)))))))))))))))))))))) (gS rfl (gS rfl (gS rfl (gS rfl (gS rfl (gS rfl (gS rfl (gS rfl (gS rfl (gS rfl (gS rfl (gS rfl (gS rfl (gS rfl (gS rfl (gS rfl (gS rfl (gS rfl (gS rfl (gS rfl (gS rfl g0))))))))))))))))))))) (gS rfl (gS rfl (gS rfl (gS rfl (gS rfl (gS rfl (gS rfl (gS rfl (gS rfl (gS rfl (gS rfl (gS rfl (gS rfl (gS rfl (gS rfl (gS rfl (gS rfl (gS rfl (gS rfl (gS rfl g0)))))))))))))))))))) (gS rfl (gS rfl (gS rfl (gS rfl (gS rfl (gS rfl (gS rfl (gS rfl (gS rfl (gS rfl (gS rfl (gS rfl (gS rfl (gS rfl (gS rfl (gS rfl (gS rfl (gS rfl (gS rfl g0))))))))))))))))))) (gS rfl (gS rfl (gS rfl (gS rfl (gS rfl (gS rfl (gS rfl (gS rfl (gS rfl (gS rfl (gS rfl (gS rfl (gS rfl (gS rfl (gS rfl (gS rfl (gS rfl (gS rfl g0)))))))))))))))))) (gS rfl (gS rfl (gS rfl (gS rfl (gS rfl (gS rfl (gS rfl (gS rfl (gS rfl (gS rfl (gS rfl (gS rfl (gS rfl (gS rfl (gS rfl (gS rfl (gS rfl g0))))))))))))))))) (fun g => ?_)
                                                          refine c_region ?_
                                                          refine l_step (y_add (et g0 rfl) rfl (addIN (y := 1) ?_)) ?_
                                                          omega
                                                          refine l_step (y_moveV (et g0 rfl)) ?_
                                                          refine l_nil ?_
                                                          refine fK11 3 5 7 8 10 94 95 96 101 102 103 (gS rfl (gS rfl (gS rfl (gS rfl (gS rfl (gS rfl (gS rfl (gS rfl (gS rfl (gS rfl (gS rfl (gS rfl g0)))))))))))) (gS rfl (gS rfl (gS rfl (gS rfl (gS rfl (gS rfl (gS rfl (gS rfl (gS rfl (gS rfl (gS rfl g0))))))))))) (gS rfl (gS rfl (gS rfl (gS rfl (gS rfl (gS rfl (gS rfl (gS rfl (gS rfl (gS rfl g0)))))))))) (gS rfl (gS rfl (gS rfl (gS rfl (gS rfl (gS rfl (gS rfl (gS rfl (gS rfl g0))))))))) (gS rfl (gS rfl (gS rfl (gS rfl (gS rfl (gS rfl (gS rfl (gS rfl g0)))))))) (gS rfl (gS rfl (gS rfl (gS rfl (gS rfl (gS rfl (gS rfl g0))))))) (gS rfl (gS rfl (gS rfl (gS rfl (gS rfl (gS rfl g0)))))) (gS rfl (gS rfl (gS rfl (gS rfl (gS rfl g0))))) (gS rfl (gS rfl (gS rfl (gS rfl g0)))) (gS rfl (gS rfl (gS rfl g0))) g0 (fun g => ?_)
                                                          exact hK62 (s.now.accts[i].slots.length - ((j + 1))) _ _ (by omega) ⟨g, _, _, (j + 1), rfl, rfl, by omega, by rw [map_take1 hjl, ← List.append_assoc]; exact hO.mono x75.ch.size, hHb, hn10b, kS, V62⟩)))
                                                  · skip
                                                    
                                                    have hjl : ¬ j < s.now.accts[i].slots.length := by have := of_decide_eq_false cB4; omega
                                                    rw [List.take_of_length_le (show s.now.accts[i].slots.length ≤ j by omega)] at hO
                                                    refine c_exit ?_
                                                    refine hQ61 _ _ _ (in_exit ?_)
                                                    refine hQ56 _ _ _ (in_normal ?_)
                                                    refine hK55 _ _ ?_
                                                    refine fg7 3 5 7 8 94 95 96 (gS rfl (gS rfl (gS rfl (gS rfl (gS rfl (gS rfl (gS rfl (gS rfl (gS rfl (gS rfl (gS rfl g0))))))))))) (gS rfl (gS rfl (gS rfl (gS rfl (gS rfl (gS rfl (gS rfl (gS rfl (gS rfl (gS rfl g0)))))))))) (gS rfl (gS rfl (gS rfl (gS rfl (gS rfl (gS rfl (gS rfl (gS rfl (gS rfl g0))))))))) (gS rfl (gS rfl (gS rfl (gS rfl (gS rfl (gS rfl (gS rfl (gS rfl g0)))))))) (gS rfl (gS rfl (gS rfl (gS rfl (gS rfl (gS rfl g0)))))) (gS rfl (gS rfl (gS rfl (gS rfl (gS rfl g0))))) (gS rfl (gS rfl (gS rfl (gS rfl g0)))) (fun g => ?_)
                                                    exact (by
                                                      refine c_region ?_
                                                      refine l_step (y_add (et g0 rfl) rfl (addIN (y := 1) ?_)) ?_
                                                      omega
                                                      refine l_step (y_moveV (et g0 rfl)) ?_
                                                      refine l_nil ?_
                                                      refine fK7 3 5 7 8 94 95 96 (gS rfl (gS rfl (gS rfl (gS rfl (gS rfl (gS rfl (gS rfl (gS rfl g0)))))))) (gS rfl (gS rfl (gS rfl (gS rfl (gS rfl (gS rfl (gS rfl g0))))))) (gS rfl (gS rfl (gS rfl (gS rfl (gS rfl (gS rfl g0)))))) (gS rfl (gS rfl (gS rfl (gS rfl (gS rfl g0))))) (gS rfl (gS rfl (gS rfl (gS rfl g0)))) (gS rfl (gS rfl (gS rfl g0))) g0 (fun g => ?_)
                                                      exact hK51 (s.now.accts.length - ((i + 1))) _ _ (by omega) ⟨g, _, _, (i + 1), rfl, rfl, by omega, by rw [start_take hil]; exact hO, hHb, kS, V51⟩))))
                                        · skip
                                          
                                          have hil : ¬ i < s.now.accts.length := by have := of_decide_eq_false cB3; omega
                                          rw [List.take_of_length_le (show s.now.accts.length ≤ i by omega)] at hO
                                          obtain ⟨Hz76, Gz76, hlz76, lvz76, hnz76⟩ := hO.keep' mono_tri G hL0 hbw
                                          replace G := Gz76
                                          replace hF := G.fz
                                          replace pa10 := pa10.mono hlz76
                                          replace n34 := n34.mono hlz76
                                          replace n38 := n38.mono hlz76
                                          replace n39 := n39.mono hlz76
                                          replace hsP := hsP.mono hlz76
                                          replace n42 := n42.mono hlz76
                                          replace hL0 := hL0.trans hlz76
                                          replace nb2 := fun hh => (hnz76 _ hh).elim nb2 (fun e => hO.ne (by omega) e)
                                          replace nb12 := fun hh => (hnz76 _ hh).elim nb12 (fun e => hO.ne (by omega) e)
                                          replace nb22 := fun hh => (hnz76 _ hh).elim nb22 (fun e => hO.ne (by omega) e)
                                          replace nbS := fun hh => (hnz76 _ hh).elim nbS (fun e => hO.ne (by omega) e)
                                          obtain ⟨sta, stc, rfl, hstl, hstc⟩ := lvz76.val
                                          have hslen : (startL s.now.accts).length < 1048576 := by omega
                                          replace eC := kS.eset eC (by omega)
                                          replace rS : RowIn _ _ [.slice aa s.now.accts.length ac, .slice wa s.now.warmA.length wc, .slice sa s.now.warmS.length sc, vr, .slice la s.now.logs.length lc, .slice ta s.now.temps.length tc, .slice ma s.now.made.length mc, .slice ga s.now.gone.length gc, .slice sta (startL s.now.accts).length stc, .slice none 0 0, .slice ra s.ret.length rc, .int .u8 (s.phase : Nat), .int .u8 (s.status : Nat), .int .u8 ((s.applied + 1 : Nat) : Int), .slice sa35 sn35 sc35, .slice sa40 sn40 sc40, vleft, .slice sa43 sn43 sc43, vtot] := kS.rset rS 8 rfl
                                          replace rOr := kS.rseto rOr (by first | (left; omega) | (right; simp only [List.length_cons, List.length_nil, length_bL, length_be]; omega))
                                          replace rMd := kS.rseto rMd (by first | (left; omega) | (right; simp only [List.length_cons, List.length_nil, length_bL, length_be]; omega))
                                          replace rE1 := kS.rseto rE1 (by first | (left; omega) | (right; simp only [List.length_cons, List.length_nil, length_bL, length_be]; omega))
                                          replace rE2 := kS.rseto rE2 (by first | (left; omega) | (right; simp only [List.length_cons, List.length_nil, length_bL, length_be]; omega))
                                          replace rE3 := kS.rseto rE3 (by first | (left; omega) | (right; simp only [List.length_cons, List.length_nil, length_bL, length_be]; omega))
                                          replace rE4 := kS.rseto rE4 (by first | (left; omega) | (right; simp only [List.length_cons, List.length_nil, length_bL, length_be]; omega))
                                          replace rE5 := kS.rseto rE5 (by first | (left; omega) | (right; simp only [List.length_cons, List.length_nil, length_bL, length_be]; omega))
                                          replace rE6 := kS.rseto rE6 (by first | (left; omega) | (right; simp only [List.length_cons, List.length_nil, length_bL, length_be]; omega))
                                          refine c_exit ?_
                                          refine hQ50 _ _ _ (in_exit ?_)
                                          refine hK48 _ _ ?_
                                          refine fg4 3 5 7 8 (gS rfl (gS rfl (gS rfl (gS rfl (gS rfl (gS rfl (gS rfl g0))))))) (gS rfl (gS rfl (gS rfl (gS rfl (gS rfl (gS rfl g0)))))) (gS rfl (gS rfl (gS rfl (gS rfl (gS rfl g0))))) (gS rfl (gS rfl (gS rfl (gS rfl g0)))) (fun g => ?_)
                                          refine c_seq (fun K77 hK77 => ?_)
                                          exact (by
                                            refine c_draw Up 9 [(0, true), (1, true), (2, true), (3, true), (4, true), (5, true), (6, true), (7, false), (8, false), (9, false)] (by kernel_rfl) (fun w78 hu => ⟨Up.refl _, ?_⟩)
                                            replace G := G.tr (Go.ofUp hF hu)
                                            replace hF := hF.up hu
                                            replace k2 := k2.up hu
                                            replace k12 := k12.up hu
                                            replace k22 := k22.up hu
                                            replace kS := kS.up hu
                                            replace U := U.tr hu
                                            have SU := Up.refl w78
                                            refine p_step (by exact rfl) (y_moveV (et (gS rfl (gS rfl g0)) rfl)) ?_
                                            refine p_step (by exact rfl) (y_nil (et g0 rfl)) ?_
                                            refine p_step (by exact rfl) (y_fld fld_102_0 (et g0 rfl)) ?_
                                            refine p_step (by exact rfl) (y_fld fld_41_0 (et (gS rfl (gS rfl (gS rfl (gS rfl (gS rfl (gS rfl g0)))))) rfl)) ?_
                                            refine p_step (by exact rfl) (y_loadR agg_25 sz_25 (et g0 rfl) (by rw [length_bL, length_be]) (atSR (k2.row rT1))) ?_
                                            refine p_step (by exact rfl) (y_fld fld_107_1 (et (gS rfl (gS rfl (gS rfl (gS rfl (gS rfl (gS rfl g0)))))) rfl)) ?_
                                            obtain ⟨vn79, vb79, vc79, vs79, hca79, hnn79, hbb79, hcd79, hss79, hb179, hb279, hb379⟩ := acct_form9 pa10.p
                                            obtain ⟨xa79, xc79, rfl, hxl79⟩ := hcd79.sv.val
                                            refine p_step (by exact rfl) (y_load1 one_95 (et g0 rfl) (atS (k12.cell (acct_c20 hca79)))) ?_
                                            refine p_eff (by exact rfl) (e_callV cal_32 (aC (v := .int .u64 ((1 : Nat) : Int)) rfl aN) (yp_num (x := 1) hF (by decide))) (fun v80 w80 h80 => ?_)
                                            obtain ⟨H80, g80, n80⟩ := h80
                                            have hlew80 := g80.le
                                            replace nb2 := g80.nb nb2 k2.lt
                                            replace nb12 := g80.nb nb12 k12.lt
                                            replace nb22 := g80.nb nb22 k22.lt
                                            replace nbS := g80.nb nbS kS.lt
                                            replace pa10 := pa10.mono hlew80
                                            replace n34 := n34.mono hlew80
                                            replace n38 := n38.mono hlew80
                                            replace n39 := n39.mono hlew80
                                            replace hsP := hsP.mono hlew80
                                            replace n42 := n42.mono hlew80
                                            replace lvz76 := lvz76.mono hlew80
                                            replace hnn79 := hnn79.mono hlew80
                                            replace hbb79 := hbb79.mono hlew80
                                            replace hcd79 := hcd79.mono hlew80
                                            replace hss79 := hss79.mono hlew80
                                            replace hL0 := hL0.trans hlew80
                                            replace k2 := k2.up g80.up
                                            replace k12 := k12.up g80.up
                                            replace k22 := k22.up g80.up
                                            replace kS := kS.up g80.up
                                            replace U := U.tr g80.up
                                            replace G := G.tr g80
                                            replace hF := g80.fz
                                            have q80 : 1 < 256 ^ 1 := by decide
                                            refine ⟨.inr (SU.tr g80.up), ?_⟩
                                            replace SU := SU.tr g80.up
                                            exact (by
                                              refine p_eff (by exact rfl) (e_callV cal_34 (aC (et (gS rfl g0) rfl) (aC (et g0 rfl) aN)) (nat_add hF hnn79 n80 (bd_sm (bd_64 hb179) (by decide)) (bd_sm q80 (by decide)))) (fun v81 w81 h81 => ?_)
                                              obtain ⟨H81, g81, n81⟩ := h81
                                              have hlew81 := g81.le
                                              replace nb2 := g81.nb nb2 k2.lt
                                              replace nb12 := g81.nb nb12 k12.lt
                                              replace nb22 := g81.nb nb22 k22.lt
                                              replace nbS := g81.nb nbS kS.lt
                                              replace pa10 := pa10.mono hlew81
                                              replace n34 := n34.mono hlew81
                                              replace n38 := n38.mono hlew81
                                              replace n39 := n39.mono hlew81
                                              replace hsP := hsP.mono hlew81
                                              replace n42 := n42.mono hlew81
                                              replace lvz76 := lvz76.mono hlew81
                                              replace hnn79 := hnn79.mono hlew81
                                              replace hbb79 := hbb79.mono hlew81
                                              replace hcd79 := hcd79.mono hlew81
                                              replace hss79 := hss79.mono hlew81
                                              replace n80 := n80.mono hlew81
                                              replace hL0 := hL0.trans hlew81
                                              replace k2 := k2.up g81.up
                                              replace k12 := k12.up g81.up
                                              replace k22 := k22.up g81.up
                                              replace kS := kS.up g81.up
                                              replace U := U.tr g81.up
                                              replace G := G.tr g81
                                              replace hF := g81.fz
                                              have q81 := bd_add (c := 9) (bd_64 hb179) q80 (by decide)
                                              refine ⟨.inr (SU.tr g81.up), ?_⟩
                                              replace SU := SU.tr g81.up
                                              refine p_eff (by exact rfl) (e_callV cal_48 (aC (et (gS rfl (gS rfl (gS rfl (gS rfl (gS rfl (gS rfl g0)))))) rfl) (aC (et (gS rfl (gS rfl (gS rfl (gS rfl g0)))) rfl) (aC (et g0 rfl) aN))) (yp_setNonce _ _ _ _ _ _ _ _ _ hF kS nbS (rS 0 _ rfl) (hAc.mono hL0) tok.frm (by omega) n81 hno9)) (fun v82 w82 h82 => ?_)
                                              obtain ⟨rfl, z82, H82, g82, lv82, kx82⟩ := h82
                                              have hlew82 := g82.le
                                              replace nb2 := g82.nb nb2 k2.lt
                                              replace nb12 := g82.nb nb12 k12.lt
                                              replace nb22 := g82.nb nb22 k22.lt
                                              replace nbS := g82.nb nbS kS.lt
                                              replace pa10 := pa10.mono hlew82
                                              replace n34 := n34.mono hlew82
                                              replace n38 := n38.mono hlew82
                                              replace n39 := n39.mono hlew82
                                              replace hsP := hsP.mono hlew82
                                              replace n42 := n42.mono hlew82
                                              replace lvz76 := lvz76.mono hlew82
                                              replace hnn79 := hnn79.mono hlew82
                                              replace hbb79 := hbb79.mono hlew82
                                              replace hcd79 := hcd79.mono hlew82
                                              replace hss79 := hss79.mono hlew82
                                              replace n80 := n80.mono hlew82
                                              replace n81 := n81.mono hlew82
                                              replace hL0 := hL0.trans hlew82
                                              replace k2 := k2.ch g82.ch (by omega)
                                              replace k12 := k12.ch g82.ch (by omega)
                                              replace k22 := k22.ch g82.ch (by omega)
                                              replace kS := kx82
                                              replace U := U.cc g82.ch (by intro b hb; first | omega | exact .inl hb | exact .inr (hb ▸ U))
                                              replace G := G.trans g82 (by intro b hb; first | omega | exact .inl hb | (simp at hb ⊢; omega))
                                              replace hF := g82.fz
                                              obtain ⟨xa82, xc82, rfl, hxl82, hxc82⟩ := lv82.val
                                              replace eC := kS.eset eC (by omega)
                                              replace rS : RowIn _ _ [_, .slice wa s.now.warmA.length wc, .slice sa s.now.warmS.length sc, vr, .slice la s.now.logs.length lc, .slice ta s.now.temps.length tc, .slice ma s.now.made.length mc, .slice ga s.now.gone.length gc, .slice sta (startL s.now.accts).length stc, .slice none 0 0, .slice ra s.ret.length rc, .int .u8 (s.phase : Nat), .int .u8 (s.status : Nat), .int .u8 ((s.applied + 1 : Nat) : Int), .slice sa35 sn35 sc35, .slice sa40 sn40 sc40, vleft, .slice sa43 sn43 sc43, vtot] := kS.rset rS 0 rfl
                                              replace rOr := kS.rseto rOr (by first | (left; omega) | (right; simp only [List.length_cons, List.length_nil, length_bL, length_be]; omega))
                                              replace rMd := kS.rseto rMd (by first | (left; omega) | (right; simp only [List.length_cons, List.length_nil, length_bL, length_be]; omega))
                                              replace rE1 := kS.rseto rE1 (by first | (left; omega) | (right; simp only [List.length_cons, List.length_nil, length_bL, length_be]; omega))
                                              replace rE2 := kS.rseto rE2 (by first | (left; omega) | (right; simp only [List.length_cons, List.length_nil, length_bL, length_be]; omega))
                                              replace rE3 := kS.rseto rE3 (by first | (left; omega) | (right; simp only [List.length_cons, List.length_nil, length_bL, length_be]; omega))
                                              replace rE4 := kS.rseto rE4 (by first | (left; omega) | (right; simp only [List.length_cons, List.length_nil, length_bL, length_be]; omega))
                                              replace rE5 := kS.rseto rE5 (by first | (left; omega) | (right; simp only [List.length_cons, List.length_nil, length_bL, length_be]; omega))
                                              replace rE6 := kS.rseto rE6 (by first | (left; omega) | (right; simp only [List.length_cons, List.length_nil, length_bL, length_be]; omega))
                                              refine ⟨.inl rfl, ?_⟩
                                              refine p_nil ?_
                                              refine hK77 _ _ ?_
                                              refine fg4 3 5 7 8 (gS rfl (gS rfl (gS rfl (gS rfl (gS rfl (gS rfl (gS rfl (gS rfl (gS rfl (gS rfl (gS rfl (gS rfl (gS rfl g0))))))))))))) (gS rfl (gS rfl (gS rfl (gS rfl (gS rfl (gS rfl (gS rfl (gS rfl (gS rfl (gS rfl (gS rfl (gS rfl g0)))))))))))) (gS rfl (gS rfl (gS rfl (gS rfl (gS rfl (gS rfl (gS rfl (gS rfl (gS rfl (gS rfl (gS rfl g0))))))))))) (gS rfl (gS rfl (gS rfl (gS rfl (gS rfl (gS rfl (gS rfl (gS rfl (gS rfl (gS rfl g0)))))))))) (fun g => ?_)
                                              refine c_seq (fun K83 hK83 => ?_)
                                              exact (by
                                                refine c_draw Up 17 [(0, true), (1, true), (2, true), (3, true), (4, true), (5, true), (6, true), (7, true), (8, true), (9, true), (10, true), (11, true), (12, true), (13, true), (14, true), (15, false), (16, false), (17, false)] (by kernel_rfl) (fun w84 hu => ⟨Up.refl _, ?_⟩)
                                                replace G := G.tr (Go.ofUp hF hu)
                                                replace hF := hF.up hu
                                                replace k2 := k2.up hu
                                                replace k12 := k12.up hu
                                                replace k22 := k22.up hu
                                                replace kS := kS.up hu
                                                replace U := U.tr hu
                                                have SU := Up.refl w84
                                                refine p_step (by exact rfl) (y_moveV (et (gS rfl (gS rfl g0)) rfl)) ?_
                                                refine p_step (by exact rfl) (y_nil (et g0 rfl)) ?_
                                                refine p_step (by exact rfl) (y_fld fld_102_0 (et g0 rfl)) ?_
                                                refine p_step (by exact rfl) (y_fld fld_41_0 (et (gS rfl (gS rfl (gS rfl (gS rfl (gS rfl (gS rfl g0)))))) rfl)) ?_
                                                refine p_step (by exact rfl) (y_loadR agg_25 sz_25 (et g0 rfl) (by rw [length_bL, length_be]) (atSR (k2.row rT1))) ?_
                                                refine p_step (by exact rfl) (y_fld fld_107_2 (et (gS rfl (gS rfl (gS rfl (gS rfl (gS rfl (gS rfl g0)))))) rfl)) ?_
                                                refine p_step (by exact rfl) (y_load1 one_95 (et g0 rfl) (atS (k12.cell (acct_c21 hca79)))) ?_
                                                refine p_step (by exact rfl) (y_moveV (et (gS rfl (gS rfl (gS rfl (gS rfl (gS rfl (gS rfl (gS rfl (gS rfl (gS rfl g0))))))))) rfl)) ?_
                                                refine p_step (by exact rfl) (y_nil (et g0 rfl)) ?_
                                                refine p_step (by exact rfl) (y_fld fld_102_7 (et g0 rfl)) ?_
                                                refine p_step (by exact rfl) (y_load1 one_95 (et g0 rfl) (atS (kS.cell (rS 14 _ rfl)))) ?_
                                                refine p_step (by exact rfl) (y_moveV (et (gS rfl (gS rfl (gS rfl (gS rfl (gS rfl (gS rfl (gS rfl (gS rfl (gS rfl (gS rfl (gS rfl (gS rfl (gS rfl g0))))))))))))) rfl)) ?_
                                                refine p_step (by exact rfl) (y_nil (et g0 rfl)) ?_
                                                refine p_step (by exact rfl) (y_fld fld_102_10 (et g0 rfl)) ?_
                                                refine p_step (by exact rfl) (y_load1 one_95 (et g0 rfl) (atS (kS.cell (rS 17 _ rfl)))) ?_
                                                refine p_eff (by exact rfl) (e_callV cal_50 (aC (et (gS rfl (gS rfl (gS rfl (gS rfl g0)))) rfl) (aC (et g0 rfl) aN)) (nat_mul hF n34 n42 (bd_sm q34 (by decide)) (bd_sm q42 (by decide)))) (fun v85 w85 h85 => ?_)
                                                obtain ⟨H85, g85, n85⟩ := h85
                                                have hlew85 := g85.le
                                                replace nb2 := g85.nb nb2 k2.lt
                                                replace nb12 := g85.nb nb12 k12.lt
                                                replace nb22 := g85.nb nb22 k22.lt
                                                replace nbS := g85.nb nbS kS.lt
                                                replace pa10 := pa10.mono hlew85
                                                replace n34 := n34.mono hlew85
                                                replace n38 := n38.mono hlew85
                                                replace n39 := n39.mono hlew85
                                                replace hsP := hsP.mono hlew85
                                                replace n42 := n42.mono hlew85
                                                replace lvz76 := lvz76.mono hlew85
                                                replace hnn79 := hnn79.mono hlew85
                                                replace hbb79 := hbb79.mono hlew85
                                                replace hcd79 := hcd79.mono hlew85
                                                replace hss79 := hss79.mono hlew85
                                                replace n80 := n80.mono hlew85
                                                replace n81 := n81.mono hlew85
                                                replace lv82 := lv82.mono hlew85
                                                replace hL0 := hL0.trans hlew85
                                                replace k2 := k2.up g85.up
                                                replace k12 := k12.up g85.up
                                                replace k22 := k22.up g85.up
                                                replace kS := kS.up g85.up
                                                replace U := U.tr g85.up
                                                replace G := G.tr g85
                                                replace hF := g85.fz
                                                have q85 := bd_mul (c := 41) q34 q42 (by decide)
                                                refine ⟨.inr (SU.tr g85.up), ?_⟩
                                                replace SU := SU.tr g85.up
                                                exact (by
                                                  refine p_eff (by exact rfl) (e_callV cal_45 (aC (et (gS rfl (gS rfl (gS rfl (gS rfl (gS rfl (gS rfl (gS rfl (gS rfl (gS rfl g0))))))))) rfl) (aC (et g0 rfl) aN)) (yp_less hF hbb79 n85 (bd_sm (bd_W hb279) (by decide)) (bd_sm q85 (by decide)))) (fun v86 w86 h86 => ?_)
                                                  obtain ⟨H86, g86, n86⟩ := h86
                                                  have hlew86 := g86.le
                                                  replace nb2 := g86.nb nb2 k2.lt
                                                  replace nb12 := g86.nb nb12 k12.lt
                                                  replace nb22 := g86.nb nb22 k22.lt
                                                  replace nbS := g86.nb nbS kS.lt
                                                  replace pa10 := pa10.mono hlew86
                                                  replace n34 := n34.mono hlew86
                                                  replace n38 := n38.mono hlew86
                                                  replace n39 := n39.mono hlew86
                                                  replace hsP := hsP.mono hlew86
                                                  replace n42 := n42.mono hlew86
                                                  replace lvz76 := lvz76.mono hlew86
                                                  replace hnn79 := hnn79.mono hlew86
                                                  replace hbb79 := hbb79.mono hlew86
                                                  replace hcd79 := hcd79.mono hlew86
                                                  replace hss79 := hss79.mono hlew86
                                                  replace n80 := n80.mono hlew86
                                                  replace n81 := n81.mono hlew86
                                                  replace lv82 := lv82.mono hlew86
                                                  replace n85 := n85.mono hlew86
                                                  replace hL0 := hL0.trans hlew86
                                                  replace k2 := k2.up g86.up
                                                  replace k12 := k12.up g86.up
                                                  replace k22 := k22.up g86.up
                                                  replace kS := kS.up g86.up
                                                  replace U := U.tr g86.up
                                                  replace G := G.tr g86
                                                  replace hF := g86.fz
                                                  have q86 := bd_sub' n86 (bd_W hb279)
                                                  refine ⟨.inr (SU.tr g86.up), ?_⟩
                                                  replace SU := SU.tr g86.up
                                                  exact (by
                                                    refine p_eff (by exact rfl) (e_callV cal_49 (aC (et (gS rfl (gS rfl (gS rfl (gS rfl (gS rfl (gS rfl (gS rfl (gS rfl (gS rfl (gS rfl (gS rfl (gS rfl (gS rfl (gS rfl g0)))))))))))))) rfl) (aC (et (gS rfl (gS rfl (gS rfl (gS rfl (gS rfl (gS rfl (gS rfl (gS rfl (gS rfl (gS rfl (gS rfl (gS rfl g0)))))))))))) rfl) (aC (et g0 rfl) aN))) (yp_setBalance _ _ _ _ _ _ _ _ _ hF kS nbS (rS 0 _ rfl) lv82 tok.frm (by have h9 : (bA1 s T).length ≤ s.now.accts.length + 1 := putA_len _ _; exact Nat.lt_of_le_of_lt h9 (by omega)) n86 (W_bd (bd_up q86 (by decide))))) (fun v87 w87 h87 => ?_)
                                                    obtain ⟨rfl, z87, H87, g87, lv87, kx87⟩ := h87
                                                    have hlew87 := g87.le
                                                    replace nb2 := g87.nb nb2 k2.lt
                                                    replace nb12 := g87.nb nb12 k12.lt
                                                    replace nb22 := g87.nb nb22 k22.lt
                                                    replace nbS := g87.nb nbS kS.lt
                                                    replace pa10 := pa10.mono hlew87
                                                    replace n34 := n34.mono hlew87
                                                    replace n38 := n38.mono hlew87
                                                    replace n39 := n39.mono hlew87
                                                    replace hsP := hsP.mono hlew87
                                                    replace n42 := n42.mono hlew87
                                                    replace lvz76 := lvz76.mono hlew87
                                                    replace hnn79 := hnn79.mono hlew87
                                                    replace hbb79 := hbb79.mono hlew87
                                                    replace hcd79 := hcd79.mono hlew87
                                                    replace hss79 := hss79.mono hlew87
                                                    replace n80 := n80.mono hlew87
                                                    replace n81 := n81.mono hlew87
                                                    replace lv82 := lv82.mono hlew87
                                                    replace n85 := n85.mono hlew87
                                                    replace n86 := n86.mono hlew87
                                                    replace hL0 := hL0.trans hlew87
                                                    replace k2 := k2.ch g87.ch (by omega)
                                                    replace k12 := k12.ch g87.ch (by omega)
                                                    replace k22 := k22.ch g87.ch (by omega)
                                                    replace kS := kx87
                                                    replace U := U.cc g87.ch (by intro b hb; first | omega | exact .inl hb | exact .inr (hb ▸ U))
                                                    replace G := G.trans g87 (by intro b hb; first | omega | exact .inl hb | (simp at hb ⊢; omega))
                                                    replace hF := g87.fz
                                                    obtain ⟨xa87, xc87, rfl, hxl87, hxc87⟩ := lv87.val
                                                    replace eC := kS.eset eC (by omega)
                                                    replace rS : RowIn _ _ [_, .slice wa s.now.warmA.length wc, .slice sa s.now.warmS.length sc, vr, .slice la s.now.logs.length lc, .slice ta s.now.temps.length tc, .slice ma s.now.made.length mc, .slice ga s.now.gone.length gc, .slice sta (startL s.now.accts).length stc, .slice none 0 0, .slice ra s.ret.length rc, .int .u8 (s.phase : Nat), .int .u8 (s.status : Nat), .int .u8 ((s.applied + 1 : Nat) : Int), .slice sa35 sn35 sc35, .slice sa40 sn40 sc40, vleft, .slice sa43 sn43 sc43, vtot] := kS.rset rS 0 rfl
                                                    replace rOr := kS.rseto rOr (by first | (left; omega) | (right; simp only [List.length_cons, List.length_nil, length_bL, length_be]; omega))
                                                    replace rMd := kS.rseto rMd (by first | (left; omega) | (right; simp only [List.length_cons, List.length_nil, length_bL, length_be]; omega))
                                                    replace rE1 := kS.rseto rE1 (by first | (left; omega) | (right; simp only [List.length_cons, List.length_nil, length_bL, length_be]; omega))
                                                    replace rE2 := kS.rseto rE2 (by first | (left; omega) | (right; simp only [List.length_cons, List.length_nil, length_bL, length_be]; omega))
                                                    replace rE3 := kS.rseto rE3 (by first | (left; omega) | (right; simp only [List.length_cons, List.length_nil, length_bL, length_be]; omega))
                                                    replace rE4 := kS.rseto rE4 (by first | (left; omega) | (right; simp only [List.length_cons, List.length_nil, length_bL, length_be]; omega))
                                                    replace rE5 := kS.rseto rE5 (by first | (left; omega) | (right; simp only [List.length_cons, List.length_nil, length_bL, length_be]; omega))
                                                    replace rE6 := kS.rseto rE6 (by first | (left; omega) | (right; simp only [List.length_cons, List.length_nil, length_bL, length_be]; omega))
                                                    refine ⟨.inl rfl, ?_⟩
                                                    refine p_nil ?_
                                                    refine hK83 _ _ ?_
                                                    refine fg3 3 5 8 (gS rfl (gS rfl (gS rfl (gS rfl (gS rfl (gS rfl (gS rfl (gS rfl (gS rfl (gS rfl (gS rfl (gS rfl (gS rfl (gS rfl (gS rfl (gS rfl (gS rfl (gS rfl (gS rfl (gS rfl (gS rfl g0))))))))))))))))))))) (gS rfl (gS rfl (gS rfl (gS rfl (gS rfl (gS rfl (gS rfl (gS rfl (gS rfl (gS rfl (gS rfl (gS rfl (gS rfl (gS rfl (gS rfl (gS rfl (gS rfl (gS rfl (gS rfl (gS rfl g0)))))))))))))))))))) (gS rfl (gS rfl (gS rfl (gS rfl (gS rfl (gS rfl (gS rfl (gS rfl (gS rfl (gS rfl (gS rfl (gS rfl (gS rfl (gS rfl (gS rfl (gS rfl (gS rfl (gS rfl g0)))))))))))))))))) (fun g => ?_)
                                                    refine c_seq (fun K88 hK88 => ?_)
                                                    exact (by
                                                      refine c_draw Up 5 [(0, true), (1, true), (2, true), (3, true), (4, true), (5, false)] (by kernel_rfl) (fun w89 hu => ⟨Up.refl _, ?_⟩)
                                                      replace G := G.tr (Go.ofUp hF hu)
                                                      replace hF := hF.up hu
                                                      replace k2 := k2.up hu
                                                      replace k12 := k12.up hu
                                                      replace k22 := k22.up hu
                                                      replace kS := kS.up hu
                                                      replace U := U.tr hu
                                                      have SU := Up.refl w89
                                                      refine p_step (by exact rfl) (y_moveV (et (gS rfl g0) rfl)) ?_
                                                      refine p_step (by exact rfl) (y_nil (et g0 rfl)) ?_
                                                      refine p_step (by exact rfl) (y_fld fld_102_0 (et g0 rfl)) ?_
                                                      refine p_step (by exact rfl) (y_fld fld_41_0 (et (gS rfl (gS rfl (gS rfl (gS rfl (gS rfl g0))))) rfl)) ?_
                                                      refine p_step (by exact rfl) (y_loadR agg_25 sz_25 (et g0 rfl) (by rw [length_bL, length_be]) (atSR (k2.row rT1))) ?_
                                                      refine p_eff (by exact rfl) (e_callV cal_51 (aC (et (gS rfl (gS rfl g0)) rfl) (aC (et g0 rfl) aN)) (yp_warm _ _ _ _ _ _ _ _ _ hF kS nbS (rS 1 _ rfl) (hWA.mono hL0) tok.frm (by omega))) (fun v90 w90 h90 => ?_)
                                                      obtain ⟨rfl, z90, H90, g90, lv90, kx90⟩ := h90
                                                      have hlew90 := g90.le
                                                      replace nb2 := g90.nb nb2 k2.lt
                                                      replace nb12 := g90.nb nb12 k12.lt
                                                      replace nb22 := g90.nb nb22 k22.lt
                                                      replace nbS := g90.nb nbS kS.lt
                                                      replace pa10 := pa10.mono hlew90
                                                      replace n34 := n34.mono hlew90
                                                      replace n38 := n38.mono hlew90
                                                      replace n39 := n39.mono hlew90
                                                      replace hsP := hsP.mono hlew90
                                                      replace n42 := n42.mono hlew90
                                                      replace lvz76 := lvz76.mono hlew90
                                                      replace hnn79 := hnn79.mono hlew90
                                                      replace hbb79 := hbb79.mono hlew90
                                                      replace hcd79 := hcd79.mono hlew90
                                                      replace hss79 := hss79.mono hlew90
                                                      replace n80 := n80.mono hlew90
                                                      replace n81 := n81.mono hlew90
                                                      replace lv82 := lv82.mono hlew90
                                                      replace n85 := n85.mono hlew90
                                                      replace n86 := n86.mono hlew90
                                                      replace lv87 := lv87.mono hlew90
                                                      replace hL0 := hL0.trans hlew90
                                                      replace k2 := k2.ch g90.ch (by omega)
                                                      replace k12 := k12.ch g90.ch (by omega)
                                                      replace k22 := k22.ch g90.ch (by omega)
                                                      replace kS := kx90
                                                      replace U := U.cc g90.ch (by intro b hb; first | omega | exact .inl hb | exact .inr (hb ▸ U))
                                                      replace G := G.trans g90 (by intro b hb; first | omega | exact .inl hb | (simp at hb ⊢; omega))
                                                      replace hF := g90.fz
                                                      obtain ⟨xa90, xc90, rfl, hxl90, hxc90⟩ := lv90.val
                                                      replace eC := kS.eset eC (by omega)
                                                      replace rS : RowIn _ _ [_, _, .slice sa s.now.warmS.length sc, vr, .slice la s.now.logs.length lc, .slice ta s.now.temps.length tc, .slice ma s.now.made.length mc, .slice ga s.now.gone.length gc, .slice sta (startL s.now.accts).length stc, .slice none 0 0, .slice ra s.ret.length rc, .int .u8 (s.phase : Nat), .int .u8 (s.status : Nat), .int .u8 ((s.applied + 1 : Nat) : Int), .slice sa35 sn35 sc35, .slice sa40 sn40 sc40, vleft, .slice sa43 sn43 sc43, vtot] := kS.rset rS 1 rfl
                                                      replace rOr := kS.rseto rOr (by first | (left; omega) | (right; simp only [List.length_cons, List.length_nil, length_bL, length_be]; omega))
                                                      replace rMd := kS.rseto rMd (by first | (left; omega) | (right; simp only [List.length_cons, List.length_nil, length_bL, length_be]; omega))
                                                      replace rE1 := kS.rseto rE1 (by first | (left; omega) | (right; simp only [List.length_cons, List.length_nil, length_bL, length_be]; omega))
                                                      replace rE2 := kS.rseto rE2 (by first | (left; omega) | (right; simp only [List.length_cons, List.length_nil, length_bL, length_be]; omega))
                                                      replace rE3 := kS.rseto rE3 (by first | (left; omega) | (right; simp only [List.length_cons, List.length_nil, length_bL, length_be]; omega))
                                                      replace rE4 := kS.rseto rE4 (by first | (left; omega) | (right; simp only [List.length_cons, List.length_nil, length_bL, length_be]; omega))
                                                      replace rE5 := kS.rseto rE5 (by first | (left; omega) | (right; simp only [List.length_cons, List.length_nil, length_bL, length_be]; omega))
                                                      replace rE6 := kS.rseto rE6 (by first | (left; omega) | (right; simp only [List.length_cons, List.length_nil, length_bL, length_be]; omega))
                                                      refine ⟨.inl rfl, ?_⟩
                                                      refine p_nil ?_
                                                      refine hK88 _ _ ?_
                                                      refine fg3 3 5 8 (gS rfl (gS rfl (gS rfl (gS rfl (gS rfl (gS rfl (gS rfl (gS rfl g0)))))))) (gS rfl (gS rfl (gS rfl (gS rfl (gS rfl (gS rfl (gS rfl g0))))))) (gS rfl (gS rfl (gS rfl (gS rfl (gS rfl (gS rfl g0)))))) (fun g => ?_)
                                                      refine c_seq (fun K91 hK91 => ?_)
                                                      exact (by
                                                        refine c_draw Up 8 [(0, true), (1, true), (2, true), (3, true), (4, true), (5, true), (6, true), (7, true), (8, false)] (by kernel_rfl) (fun w92 hu => ⟨Up.refl _, ?_⟩)
                                                        replace G := G.tr (Go.ofUp hF hu)
                                                        replace hF := hF.up hu
                                                        replace k2 := k2.up hu
                                                        replace k12 := k12.up hu
                                                        replace k22 := k22.up hu
                                                        replace kS := kS.up hu
                                                        replace U := U.tr hu
                                                        have SU := Up.refl w92
                                                        refine p_step (by exact rfl) (y_moveV (et (gS rfl g0) rfl)) ?_
                                                        refine p_step (by exact rfl) (y_nil (et g0 rfl)) ?_
                                                        refine p_step (by exact rfl) (y_fld fld_102_0 (et g0 rfl)) ?_
                                                        refine p_step (by exact rfl) (y_moveV (et (gS rfl (gS rfl (gS rfl (gS rfl g0)))) rfl)) ?_
                                                        refine p_step (by exact rfl) (y_nil (et g0 rfl)) ?_
                                                        refine p_step (by exact rfl) (y_fld fld_102_14 (et g0 rfl)) ?_
                                                        refine p_step (by exact rfl) (y_fld fld_31_0 (et g0 rfl)) ?_
                                                        refine p_step (by exact rfl) (y_loadR agg_25 sz_25 (et g0 rfl) (by rw [length_bL, length_be]) (atSR (kS.row rE1))) ?_
                                                        refine p_eff (by exact rfl) (e_callV cal_51 (aC (et (gS rfl (gS rfl (gS rfl (gS rfl (gS rfl g0))))) rfl) (aC (et g0 rfl) aN)) (yp_warm _ _ _ _ _ _ _ _ _ hF kS nbS (rS 1 _ rfl) lv90 eo.coinbase (by have hC14 := len_withA s.now.warmA T.frm; exact Nat.lt_of_le_of_lt hC14 (by omega)))) (fun v93 w93 h93 => ?_)
                                                        obtain ⟨rfl, z93, H93, g93, lv93, kx93⟩ := h93
                                                        have hlew93 := g93.le
                                                        replace nb2 := g93.nb nb2 k2.lt
                                                        replace nb12 := g93.nb nb12 k12.lt
                                                        replace nb22 := g93.nb nb22 k22.lt
                                                        replace nbS := g93.nb nbS kS.lt
                                                        replace pa10 := pa10.mono hlew93
                                                        replace n34 := n34.mono hlew93
                                                        replace n38 := n38.mono hlew93
                                                        replace n39 := n39.mono hlew93
                                                        replace hsP := hsP.mono hlew93
                                                        replace n42 := n42.mono hlew93
                                                        replace lvz76 := lvz76.mono hlew93
                                                        replace hnn79 := hnn79.mono hlew93
                                                        replace hbb79 := hbb79.mono hlew93
                                                        replace hcd79 := hcd79.mono hlew93
                                                        replace hss79 := hss79.mono hlew93
                                                        replace n80 := n80.mono hlew93
                                                        replace n81 := n81.mono hlew93
                                                        replace lv82 := lv82.mono hlew93
                                                        replace n85 := n85.mono hlew93
                                                        replace n86 := n86.mono hlew93
                                                        replace lv87 := lv87.mono hlew93
                                                        replace lv90 := lv90.mono hlew93
                                                        replace hL0 := hL0.trans hlew93
                                                        replace k2 := k2.ch g93.ch (by omega)
                                                        replace k12 := k12.ch g93.ch (by omega)
                                                        replace k22 := k22.ch g93.ch (by omega)
                                                        replace kS := kx93
                                                        replace U := U.cc g93.ch (by intro b hb; first | omega | exact .inl hb | exact .inr (hb ▸ U))
                                                        replace G := G.trans g93 (by intro b hb; first | omega | exact .inl hb | (simp at hb ⊢; omega))
                                                        replace hF := g93.fz
                                                        obtain ⟨xa93, xc93, rfl, hxl93, hxc93⟩ := lv93.val
                                                        replace eC := kS.eset eC (by omega)
                                                        replace rS : RowIn _ _ [_, _, .slice sa s.now.warmS.length sc, vr, .slice la s.now.logs.length lc, .slice ta s.now.temps.length tc, .slice ma s.now.made.length mc, .slice ga s.now.gone.length gc, .slice sta (startL s.now.accts).length stc, .slice none 0 0, .slice ra s.ret.length rc, .int .u8 (s.phase : Nat), .int .u8 (s.status : Nat), .int .u8 ((s.applied + 1 : Nat) : Int), .slice sa35 sn35 sc35, .slice sa40 sn40 sc40, vleft, .slice sa43 sn43 sc43, vtot] := kS.rset rS 1 rfl
                                                        replace rOr := kS.rseto rOr (by first | (left; omega) | (right; simp only [List.length_cons, List.length_nil, length_bL, length_be]; omega))
                                                        replace rMd := kS.rseto rMd (by first | (left; omega) | (right; simp only [List.length_cons, List.length_nil, length_bL, length_be]; omega))
                                                        replace rE1 := kS.rseto rE1 (by first | (left; omega) | (right; simp only [List.length_cons, List.length_nil, length_bL, length_be]; omega))
                                                        replace rE2 := kS.rseto rE2 (by first | (left; omega) | (right; simp only [List.length_cons, List.length_nil, length_bL, length_be]; omega))
                                                        replace rE3 := kS.rseto rE3 (by first | (left; omega) | (right; simp only [List.length_cons, List.length_nil, length_bL, length_be]; omega))
                                                        replace rE4 := kS.rseto rE4 (by first | (left; omega) | (right; simp only [List.length_cons, List.length_nil, length_bL, length_be]; omega))
                                                        replace rE5 := kS.rseto rE5 (by first | (left; omega) | (right; simp only [List.length_cons, List.length_nil, length_bL, length_be]; omega))
                                                        replace rE6 := kS.rseto rE6 (by first | (left; omega) | (right; simp only [List.length_cons, List.length_nil, length_bL, length_be]; omega))
                                                        refine ⟨.inl rfl, ?_⟩
                                                        refine p_nil ?_
                                                        refine hK91 _ _ ?_
                                                        refine fg3 3 5 8 (gS rfl (gS rfl (gS rfl (gS rfl (gS rfl (gS rfl (gS rfl (gS rfl (gS rfl (gS rfl (gS rfl g0))))))))))) (gS rfl (gS rfl (gS rfl (gS rfl (gS rfl (gS rfl (gS rfl (gS rfl (gS rfl (gS rfl g0)))))))))) (gS rfl (gS rfl (gS rfl (gS rfl (gS rfl (gS rfl (gS rfl (gS rfl (gS rfl g0))))))))) (fun g => ?_)
                                                        refine c_seq (fun K94 hK94 => ?_)
                                                        exact (by
                                                          refine c_draw Up 4 [(0, true), (1, true), (2, true), (3, true), (4, false)] (by kernel_rfl) (fun w95 hu => ⟨Up.refl _, ?_⟩)
                                                          replace G := G.tr (Go.ofUp hF hu)
                                                          replace hF := hF.up hu
                                                          replace k2 := k2.up hu
                                                          replace k12 := k12.up hu
                                                          replace k22 := k22.up hu
                                                          replace kS := kS.up hu
                                                          replace U := U.tr hu
                                                          have SU := Up.refl w95
                                                          refine p_step (by exact rfl) (y_moveV (et (gS rfl g0) rfl)) ?_
                                                          refine p_step (by exact rfl) (y_nil (et g0 rfl)) ?_
                                                          refine p_step (by exact rfl) (y_fld fld_102_0 (et g0 rfl)) ?_
                                                          refine p_step (by exact rfl) (y_loadB agg_25 sz_25 (et (gS rfl (gS rfl (gS rfl g0))) rfl) (by rw [List.size_toArray, length_bL, length_be]) (atSB k22)) ?_
                                                          refine p_eff (by exact rfl) (e_callV cal_51 (aC (et (gS rfl g0) rfl) (aC (et g0 rfl) aN)) (yp_warm _ _ _ _ _ _ _ _ _ hF kS nbS (rS 1 _ rfl) lv93 tok.to (by have hC14 := len_withA s.now.warmA T.frm; have hC15 := len_withA (withA s.now.warmA T.frm) s.env.coinbase; exact Nat.lt_of_le_of_lt hC15 (by omega)))) (fun v96 w96 h96 => ?_)
                                                          obtain ⟨rfl, z96, H96, g96, lv96, kx96⟩ := h96
                                                          have hlew96 := g96.le
                                                          replace nb2 := g96.nb nb2 k2.lt
                                                          replace nb12 := g96.nb nb12 k12.lt
                                                          replace nb22 := g96.nb nb22 k22.lt
                                                          replace nbS := g96.nb nbS kS.lt
                                                          replace pa10 := pa10.mono hlew96
                                                          replace n34 := n34.mono hlew96
                                                          replace n38 := n38.mono hlew96
                                                          replace n39 := n39.mono hlew96
                                                          replace hsP := hsP.mono hlew96
                                                          replace n42 := n42.mono hlew96
                                                          replace lvz76 := lvz76.mono hlew96
                                                          replace hnn79 := hnn79.mono hlew96
                                                          replace hbb79 := hbb79.mono hlew96
                                                          replace hcd79 := hcd79.mono hlew96
                                                          replace hss79 := hss79.mono hlew96
                                                          replace n80 := n80.mono hlew96
                                                          replace n81 := n81.mono hlew96
                                                          replace lv82 := lv82.mono hlew96
                                                          replace n85 := n85.mono hlew96
                                                          replace n86 := n86.mono hlew96
                                                          replace lv87 := lv87.mono hlew96
                                                          replace lv90 := lv90.mono hlew96
                                                          replace lv93 := lv93.mono hlew96
                                                          replace hL0 := hL0.trans hlew96
                                                          replace k2 := k2.ch g96.ch (by omega)
                                                          replace k12 := k12.ch g96.ch (by omega)
                                                          replace k22 := k22.ch g96.ch (by omega)
                                                          replace kS := kx96
                                                          replace U := U.cc g96.ch (by intro b hb; first | omega | exact .inl hb | exact .inr (hb ▸ U))
                                                          replace G := G.trans g96 (by intro b hb; first | omega | exact .inl hb | (simp at hb ⊢; omega))
                                                          replace hF := g96.fz
                                                          obtain ⟨xa96, xc96, rfl, hxl96, hxc96⟩ := lv96.val
                                                          replace eC := kS.eset eC (by omega)
                                                          replace rS : RowIn _ _ [_, _, .slice sa s.now.warmS.length sc, vr, .slice la s.now.logs.length lc, .slice ta s.now.temps.length tc, .slice ma s.now.made.length mc, .slice ga s.now.gone.length gc, .slice sta (startL s.now.accts).length stc, .slice none 0 0, .slice ra s.ret.length rc, .int .u8 (s.phase : Nat), .int .u8 (s.status : Nat), .int .u8 ((s.applied + 1 : Nat) : Int), .slice sa35 sn35 sc35, .slice sa40 sn40 sc40, vleft, .slice sa43 sn43 sc43, vtot] := kS.rset rS 1 rfl
                                                          replace rOr := kS.rseto rOr (by first | (left; omega) | (right; simp only [List.length_cons, List.length_nil, length_bL, length_be]; omega))
                                                          replace rMd := kS.rseto rMd (by first | (left; omega) | (right; simp only [List.length_cons, List.length_nil, length_bL, length_be]; omega))
                                                          replace rE1 := kS.rseto rE1 (by first | (left; omega) | (right; simp only [List.length_cons, List.length_nil, length_bL, length_be]; omega))
                                                          replace rE2 := kS.rseto rE2 (by first | (left; omega) | (right; simp only [List.length_cons, List.length_nil, length_bL, length_be]; omega))
                                                          replace rE3 := kS.rseto rE3 (by first | (left; omega) | (right; simp only [List.length_cons, List.length_nil, length_bL, length_be]; omega))
                                                          replace rE4 := kS.rseto rE4 (by first | (left; omega) | (right; simp only [List.length_cons, List.length_nil, length_bL, length_be]; omega))
                                                          replace rE5 := kS.rseto rE5 (by first | (left; omega) | (right; simp only [List.length_cons, List.length_nil, length_bL, length_be]; omega))
                                                          replace rE6 := kS.rseto rE6 (by first | (left; omega) | (right; simp only [List.length_cons, List.length_nil, length_bL, length_be]; omega))
                                                          refine ⟨.inl rfl, ?_⟩
                                                          refine p_nil ?_
                                                          refine hK94 _ _ ?_
                                                          refine fg3 3 5 8 (gS rfl (gS rfl (gS rfl (gS rfl (gS rfl (gS rfl (gS rfl g0))))))) (gS rfl (gS rfl (gS rfl (gS rfl (gS rfl (gS rfl g0)))))) (gS rfl (gS rfl (gS rfl (gS rfl (gS rfl g0))))) (fun g => ?_)
                                                          refine c_seq (fun K97 hK97 => ?_)
                                                          exact (by
                                                            refine c_region ?_
                                                            refine l_step (y_moveV (et (gS rfl g0) rfl)) ?_
                                                            refine l_step (y_nil (et g0 rfl)) ?_
                                                            refine l_step (y_fld fld_102_0 (et g0 rfl)) ?_
                                                            refine l_step (y_bld (bC rfl bN) bld25_4) ?_
                                                            refine l_eff (e_callV cal_51 (aC (et (gS rfl g0) rfl) (aC (et g0 rfl) aN)) (yp_warm _ _ _ _ _ _ _ _ _ hF kS nbS (rS 1 _ rfl) lv96 (by decide) (by have hC14 := len_withA s.now.warmA T.frm; have hC15 := len_withA (withA s.now.warmA T.frm) s.env.coinbase; have hC16 := len_withA (withA (withA s.now.warmA T.frm) s.env.coinbase) T.to; exact Nat.lt_of_le_of_lt hC16 (by omega)))) (fun v98 w98 h98 => ?_)
                                                            obtain ⟨rfl, z98, H98, g98, lv98, kx98⟩ := h98
                                                            have hlew98 := g98.le
                                                            replace nb2 := g98.nb nb2 k2.lt
                                                            replace nb12 := g98.nb nb12 k12.lt
                                                            replace nb22 := g98.nb nb22 k22.lt
                                                            replace nbS := g98.nb nbS kS.lt
                                                            replace pa10 := pa10.mono hlew98
                                                            replace n34 := n34.mono hlew98
                                                            replace n38 := n38.mono hlew98
                                                            replace n39 := n39.mono hlew98
                                                            replace hsP := hsP.mono hlew98
                                                            replace n42 := n42.mono hlew98
                                                            replace lvz76 := lvz76.mono hlew98
                                                            replace hnn79 := hnn79.mono hlew98
                                                            replace hbb79 := hbb79.mono hlew98
                                                            replace hcd79 := hcd79.mono hlew98
                                                            replace hss79 := hss79.mono hlew98
                                                            replace n80 := n80.mono hlew98
                                                            replace n81 := n81.mono hlew98
                                                            replace lv82 := lv82.mono hlew98
                                                            replace n85 := n85.mono hlew98
                                                            replace n86 := n86.mono hlew98
                                                            replace lv87 := lv87.mono hlew98
                                                            replace lv90 := lv90.mono hlew98
                                                            replace lv93 := lv93.mono hlew98
                                                            replace lv96 := lv96.mono hlew98
                                                            replace hL0 := hL0.trans hlew98
                                                            replace k2 := k2.ch g98.ch (by omega)
                                                            replace k12 := k12.ch g98.ch (by omega)
                                                            replace k22 := k22.ch g98.ch (by omega)
                                                            replace kS := kx98
                                                            replace U := U.cc g98.ch (by intro b hb; first | omega | exact .inl hb | exact .inr (hb ▸ U))
                                                            replace G := G.trans g98 (by intro b hb; first | omega | exact .inl hb | (simp at hb ⊢; omega))
                                                            replace hF := g98.fz
                                                            obtain ⟨xa98, xc98, rfl, hxl98, hxc98⟩ := lv98.val
                                                            replace eC := kS.eset eC (by omega)
                                                            replace rS : RowIn _ _ [_, _, .slice sa s.now.warmS.length sc, vr, .slice la s.now.logs.length lc, .slice ta s.now.temps.length tc, .slice ma s.now.made.length mc, .slice ga s.now.gone.length gc, .slice sta (startL s.now.accts).length stc, .slice none 0 0, .slice ra s.ret.length rc, .int .u8 (s.phase : Nat), .int .u8 (s.status : Nat), .int .u8 ((s.applied + 1 : Nat) : Int), .slice sa35 sn35 sc35, .slice sa40 sn40 sc40, vleft, .slice sa43 sn43 sc43, vtot] := kS.rset rS 1 rfl
                                                            replace rOr := kS.rseto rOr (by first | (left; omega) | (right; simp only [List.length_cons, List.length_nil, length_bL, length_be]; omega))
                                                            replace rMd := kS.rseto rMd (by first | (left; omega) | (right; simp only [List.length_cons, List.length_nil, length_bL, length_be]; omega))
                                                            replace rE1 := kS.rseto rE1 (by first | (left; omega) | (right; simp only [List.length_cons, List.length_nil, length_bL, length_be]; omega))
                                                            replace rE2 := kS.rseto rE2 (by first | (left; omega) | (right; simp only [List.length_cons, List.length_nil, length_bL, length_be]; omega))
                                                            replace rE3 := kS.rseto rE3 (by first | (left; omega) | (right; simp only [List.length_cons, List.length_nil, length_bL, length_be]; omega))
                                                            replace rE4 := kS.rseto rE4 (by first | (left; omega) | (right; simp only [List.length_cons, List.length_nil, length_bL, length_be]; omega))
                                                            replace rE5 := kS.rseto rE5 (by first | (left; omega) | (right; simp only [List.length_cons, List.length_nil, length_bL, length_be]; omega))
                                                            replace rE6 := kS.rseto rE6 (by first | (left; omega) | (right; simp only [List.length_cons, List.length_nil, length_bL, length_be]; omega))
                                                            refine l_nil ?_
                                                            refine hK97 _ _ ?_
                                                            refine fg3 3 5 8 (gS rfl (gS rfl (gS rfl (gS rfl (gS rfl (gS rfl (gS rfl g0))))))) (gS rfl (gS rfl (gS rfl (gS rfl (gS rfl (gS rfl g0)))))) (gS rfl (gS rfl (gS rfl (gS rfl (gS rfl g0))))) (fun g => ?_)
                                                            refine c_seq (fun K99 hK99 => ?_)
                                                            exact (by
                                                              refine c_region ?_
                                                              refine l_step (y_moveV (et (gS rfl g0) rfl)) ?_
                                                              refine l_step (y_nil (et g0 rfl)) ?_
                                                              refine l_step (y_fld fld_102_0 (et g0 rfl)) ?_
                                                              refine l_step (y_bld (bC rfl bN) bld25_5) ?_
                                                              refine l_eff (e_callV cal_51 (aC (et (gS rfl g0) rfl) (aC (et g0 rfl) aN)) (yp_warm _ _ _ _ _ _ _ _ _ hF kS nbS (rS 1 _ rfl) lv98 (by decide) (by have hC14 := len_withA s.now.warmA T.frm; have hC15 := len_withA (withA s.now.warmA T.frm) s.env.coinbase; have hC16 := len_withA (withA (withA s.now.warmA T.frm) s.env.coinbase) T.to; have hC17 := len_withA (withA (withA (withA s.now.warmA T.frm) s.env.coinbase) T.to) 4; exact Nat.lt_of_le_of_lt hC17 (by omega)))) (fun v100 w100 h100 => ?_)
                                                              obtain ⟨rfl, z100, H100, g100, lv100, kx100⟩ := h100
                                                              have hlew100 := g100.le
                                                              replace nb2 := g100.nb nb2 k2.lt
                                                              replace nb12 := g100.nb nb12 k12.lt
                                                              replace nb22 := g100.nb nb22 k22.lt
                                                              replace nbS := g100.nb nbS kS.lt
                                                              replace pa10 := pa10.mono hlew100
                                                              replace n34 := n34.mono hlew100
                                                              replace n38 := n38.mono hlew100
                                                              replace n39 := n39.mono hlew100
                                                              replace hsP := hsP.mono hlew100
                                                              replace n42 := n42.mono hlew100
                                                              replace lvz76 := lvz76.mono hlew100
                                                              replace hnn79 := hnn79.mono hlew100
                                                              replace hbb79 := hbb79.mono hlew100
                                                              replace hcd79 := hcd79.mono hlew100
                                                              replace hss79 := hss79.mono hlew100
                                                              replace n80 := n80.mono hlew100
                                                              replace n81 := n81.mono hlew100
                                                              replace lv82 := lv82.mono hlew100
                                                              replace n85 := n85.mono hlew100
                                                              replace n86 := n86.mono hlew100
                                                              replace lv87 := lv87.mono hlew100
                                                              replace lv90 := lv90.mono hlew100
                                                              replace lv93 := lv93.mono hlew100
                                                              replace lv96 := lv96.mono hlew100
                                                              replace lv98 := lv98.mono hlew100
                                                              replace hL0 := hL0.trans hlew100
                                                              replace k2 := k2.ch g100.ch (by omega)
                                                              replace k12 := k12.ch g100.ch (by omega)
                                                              replace k22 := k22.ch g100.ch (by omega)
                                                              replace kS := kx100
                                                              replace U := U.cc g100.ch (by intro b hb; first | omega | exact .inl hb | exact .inr (hb ▸ U))
                                                              replace G := G.trans g100 (by intro b hb; first | omega | exact .inl hb | (simp at hb ⊢; omega))
                                                              replace hF := g100.fz
                                                              obtain ⟨xa100, xc100, rfl, hxl100, hxc100⟩ := lv100.val
                                                              replace eC := kS.eset eC (by omega)
                                                              replace rS : RowIn _ _ [_, _, .slice sa s.now.warmS.length sc, vr, .slice la s.now.logs.length lc, .slice ta s.now.temps.length tc, .slice ma s.now.made.length mc, .slice ga s.now.gone.length gc, .slice sta (startL s.now.accts).length stc, .slice none 0 0, .slice ra s.ret.length rc, .int .u8 (s.phase : Nat), .int .u8 (s.status : Nat), .int .u8 ((s.applied + 1 : Nat) : Int), .slice sa35 sn35 sc35, .slice sa40 sn40 sc40, vleft, .slice sa43 sn43 sc43, vtot] := kS.rset rS 1 rfl
                                                              replace rOr := kS.rseto rOr (by first | (left; omega) | (right; simp only [List.length_cons, List.length_nil, length_bL, length_be]; omega))
                                                              replace rMd := kS.rseto rMd (by first | (left; omega) | (right; simp only [List.length_cons, List.length_nil, length_bL, length_be]; omega))
                                                              replace rE1 := kS.rseto rE1 (by first | (left; omega) | (right; simp only [List.length_cons, List.length_nil, length_bL, length_be]; omega))
                                                              replace rE2 := kS.rseto rE2 (by first | (left; omega) | (right; simp only [List.length_cons, List.length_nil, length_bL, length_be]; omega))
                                                              replace rE3 := kS.rseto rE3 (by first | (left; omega) | (right; simp only [List.length_cons, List.length_nil, length_bL, length_be]; omega))
                                                              replace rE4 := kS.rseto rE4 (by first | (left; omega) | (right; simp only [List.length_cons, List.length_nil, length_bL, length_be]; omega))
                                                              replace rE5 := kS.rseto rE5 (by first | (left; omega) | (right; simp only [List.length_cons, List.length_nil, length_bL, length_be]; omega))
                                                              replace rE6 := kS.rseto rE6 (by first | (left; omega) | (right; simp only [List.length_cons, List.length_nil, length_bL, length_be]; omega))
                                                              refine l_nil ?_
                                                              refine hK99 _ _ ?_
                                                              refine fg3 3 5 8 (gS rfl (gS rfl (gS rfl (gS rfl (gS rfl (gS rfl (gS rfl g0))))))) (gS rfl (gS rfl (gS rfl (gS rfl (gS rfl (gS rfl g0)))))) (gS rfl (gS rfl (gS rfl (gS rfl (gS rfl g0))))) (fun g => ?_)
                                                              refine c_seq (fun K101 hK101 => ?_)
                                                              refine c_seq (fun K102 hK102 => ?_)
                                                              exact (by
                                                                refine c_region ?_
                                                                refine l_step (y_fld fld_41_11 (et (gS rfl (gS rfl g0)) rfl)) ?_
                                                                refine l_step (y_load1 one_39 (et g0 rfl) (at1 (k2.cell (rT9 0 _ rfl)))) ?_
                                                                refine l_step (y_len Hvaa.underlying39 (et g0 rfl)) ?_
                                                                refine l_step y_moveC ?_
                                                                refine l_nil ?_
                                                                refine hK102 _ _ ?_
                                                                refine fg6 3 5 8 184 185 186 (gS rfl (gS rfl (gS rfl (gS rfl (gS rfl (gS rfl g0)))))) (gS rfl (gS rfl (gS rfl (gS rfl (gS rfl g0))))) (gS rfl (gS rfl (gS rfl (gS rfl g0)))) (gS rfl (gS rfl g0)) (gS rfl g0) g0 (fun g => ?_)
                                                                refine c_block (fun Q103 hQ103 => ?_)
                                                                refine fg6 3 5 8 184 185 186 (gS rfl (gS rfl (gS rfl (gS rfl (gS rfl g0))))) (gS rfl (gS rfl (gS rfl (gS rfl g0)))) (gS rfl (gS rfl (gS rfl g0))) (gS rfl (gS rfl g0)) (gS rfl g0) g0 (fun g => ?_)
                                                                obtain ⟨csC, kS, rS, rOr, rMd, rE1, rE2, rE3, rE4, rE5, rE6, eC, hszC⟩ := pack9 kS rS rOr rMd rE1 rE2 rE3 rE4 rE5 rE6 eC (by simp only [size_spl, Array.size_setIfInBounds]; exact hszB)
                                                                have hc1 := rS 1 _ rfl
                                                                have hc2 := rS 2 _ rfl
                                                                have hW5e : (bW3 s T).warmA = (withA (withA (withA (withA (withA s.now.warmA T.frm) s.env.coinbase) T.to) 4) 5) := by
                                                                  show withA (withA (withA (withA (withA s.now.warmA T.frm) s.env.coinbase) (bTgt s T)) 4) 5 = _
                                                                  rw [hTg]
                                                                have hW5 := lv100
                                                                rw [← hW5e] at hW5
                                                                have hW5l : (bW3 s T).warmA.length ≤ s.now.warmA.length + 5 + 0 := by
                                                                  show (withA (withA (withA (withA (withA s.now.warmA T.frm) s.env.coinbase) (bTgt s T)) 4) 5).length ≤ _
                                                                  rw [hTg]
                                                                  have hC14 := len_withA s.now.warmA T.frm
                                                                  have hC15 := len_withA (withA s.now.warmA T.frm) s.env.coinbase
                                                                  have hC16 := len_withA (withA (withA s.now.warmA T.frm) s.env.coinbase) T.to
                                                                  have hC17 := len_withA (withA (withA (withA s.now.warmA T.frm) s.env.coinbase) T.to) 4
                                                                  have hC18 := len_withA (withA (withA (withA (withA s.now.warmA T.frm) s.env.coinbase) T.to) 4) 5
                                                                  omega
                                                                replace kS : Blk w100 bs ((csC.setIfInBounds (0 + 1) (.slice xa100 (bW3 s T).warmA.length xc100)).setIfInBounds (0 + 2) (.slice sa s.now.warmS.length sc)) := by
                                                                  rw [hW5e, set_self hc1, set_self hc2]
                                                                  exact kS
                                                                refine c_loop (fun k_ s_ W104 => ∃ (g : Nat → Value) (Hk104 : Store) (va vs : Value) (i : Nat), s_ = (upd (upd (upd (upd (upd (upd g 3 (.pointer (some ⟨b2, 0, none⟩))) 5 (.pointer (some ⟨bs, 0, none⟩))) 8 (.pointer (some ⟨b22, 0, none⟩))) 184 (.slice taa T.access.length tac)) 185 (.int .i64 (T.access.length : Nat))) 186 (.int .i64 (i : Nat))) ∧ T.access.length - i = k_ ∧ (i ≤ T.access.length) ∧ (LV P_addr 20 Hk104 va (wList (bW3 s T) (T.access.take i)).warmA) ∧ (LV P_mark 21 Hk104 vs (wList (bW3 s T) (T.access.take i)).warmS) ∧ ((wList (bW3 s T) (T.access.take i)).warmA.length ≤ s.now.warmA.length + 5 + i) ∧ ((wList (bW3 s T) (T.access.take i)).warmS.length ≤ s.now.warmS.length + keysN (T.access.take i)) ∧ Blk W104 bs ((csC.setIfInBounds (0 + 1) va).setIfInBounds (0 + 2) vs) ∧ Go (fun k => k = bs) w100 H100 W104 Hk104) (T.access.length - (0)) ?_ ?_
                                                                · exact ⟨g, _, (.slice xa100 (bW3 s T).warmA.length xc100), (.slice sa s.now.warmS.length sc), 0, rfl, rfl, Nat.zero_le _, by rw [List.take_zero]; exact hW5, hWS.mono hL0, by rw [List.take_zero]; exact hW5l, Nat.le_add_right _ _, kS, Go.refl hF⟩
                                                                · skip
                                                                  intro k_ s_ W104 hI K104 hK104
                                                                  obtain ⟨g, Hk104, va, vs, i, rfl, rfl, hi9, hA1, hS1, hlA, hlS, nkS, V104⟩ := hI
                                                                  have hle104 := V104.le
                                                                  replace nb2 := V104.nb nb2 k2.lt
                                                                  replace nb12 := V104.nb nb12 k12.lt
                                                                  replace nb22 := V104.nb nb22 k22.lt
                                                                  replace nbS := V104.nb nbS kS.lt
                                                                  replace pa10 := pa10.mono hle104
                                                                  replace n34 := n34.mono hle104
                                                                  replace n38 := n38.mono hle104
                                                                  replace n39 := n39.mono hle104
                                                                  replace hsP := hsP.mono hle104
                                                                  replace n42 := n42.mono hle104
                                                                  replace lvz76 := lvz76.mono hle104
                                                                  replace hnn79 := hnn79.mono hle104
                                                                  replace hbb79 := hbb79.mono hle104
                                                                  replace hcd79 := hcd79.mono hle104
                                                                  replace hss79 := hss79.mono hle104
                                                                  replace n80 := n80.mono hle104
                                                                  replace n81 := n81.mono hle104
                                                                  replace lv82 := lv82.mono hle104
                                                                  replace n85 := n85.mono hle104
                                                                  replace n86 := n86.mono hle104
                                                                  replace lv87 := lv87.mono hle104
                                                                  replace lv90 := lv90.mono hle104
                                                                  replace lv93 := lv93.mono hle104
                                                                  replace lv96 := lv96.mono hle104
                                                                  replace lv98 := lv98.mono hle104
                                                                  replace lv100 := lv100.mono hle104
                                                                  replace hL0 := hL0.trans hle104
                                                                  replace G := G.trans V104 (by intro b hb; first | exact hb.elim | omega | (simp at hb ⊢; omega))
                                                                  replace hF := V104.fz
                                                                  replace k2 := k2.ch V104.ch (by omega)
                                                                  replace k12 := k12.ch V104.ch (by omega)
                                                                  replace k22 := k22.ch V104.ch (by omega)
                                                                  replace kS := nkS
                                                                  replace U := U.cc V104.ch (by intro b hb; first | exact hb.elim | omega | (simp at hb ⊢; omega))
                                                                  obtain ⟨wa9, wc9, rfl, hwl9, hwc9⟩ := hA1.val
                                                                  obtain ⟨ws9, wd9, rfl, hsl8, hsc8⟩ := hS1.val
                                                                  have hkl9 := keys_le T.access i
                                                                  refine c_seq (fun K105 hK105 => ?_)
                                                                  exact (by
                                                                    refine c_region ?_
                                                                    refine l_step (y_lss (et g0 rfl) (et (gS rfl g0) rfl)) ?_
                                                                    refine l_nil ?_
                                                                    refine hK105 _ _ ?_
                                                                    refine c_seq (fun K106 hK106 => ?_)
                                                                    refine c_cond (et g0 rfl) (fun cB5 => ?_) (fun cB5 => ?_)
                                                                    · skip
                                                                      
                                                                      have hil : i < T.access.length := by have := of_decide_eq_true cB5; omega
                                                                      have hkt9 := keys_take hil
                                                                      have hkl8 := keys_le T.access (i + 1)
                                                                      refine c_skip ?_
                                                                      refine hK106 _ _ ?_
                                                                      refine fg6 3 5 8 184 185 186 (gS rfl (gS rfl (gS rfl (gS rfl (gS rfl (gS rfl g0)))))) (gS rfl (gS rfl (gS rfl (gS rfl (gS rfl g0))))) (gS rfl (gS rfl (gS rfl (gS rfl g0)))) (gS rfl (gS rfl (gS rfl g0))) (gS rfl (gS rfl g0)) (gS rfl g0) (fun g => ?_)
                                                                      refine c_seq (fun K108 hK108 => ?_)
                                                                      refine c_block (fun Q109 hQ109 => ?_)
                                                                      refine c_seq (fun K110 hK110 => ?_)
                                                                      exact (by
                                                                        refine c_region ?_
                                                                        obtain ⟨bq3, oq3, r3, ha3, hrow3, hrl3, vk3, hr3, hal3, hvk3⟩ := hTa.row (hF.le9 hL0) (i := i) hil
                                                                        rw [hr3] at hrow3 hrl3
                                                                        obtain ⟨ka3, kc3, rfl, hkl3, hkc3⟩ := hvk3.val
                                                                        refine l_step (y_idxSa ha3 Hvaa.underlying39 sz_143 (et (gS rfl (gS rfl g0)) rfl) (et g0 rfl) ?_) ?_
                                                                        omega
                                                                        refine l_step (y_loadR agg_143 sz_143 (et g0 rfl) len21 (at1R hrow3)) ?_
                                                                        refine l_eff (e_alloc zr_143) (fun v111 w111 h111 => ?_)
                                                                        obtain ⟨b111, rfl, n111⟩ := h111
                                                                        have d2_111 : b2 < b111 := Nat.lt_of_lt_of_le k2.lt n111.fresh
                                                                        have d12_111 : b12 < b111 := Nat.lt_of_lt_of_le k12.lt n111.fresh
                                                                        have d22_111 : b22 < b111 := Nat.lt_of_lt_of_le k22.lt n111.fresh
                                                                        have f111 : w.heap.size ≤ b111 := Nat.le_trans U.size n111.fresh
                                                                        have nb111 := hF.nb n111.fresh
                                                                        have fV104_111 := Nat.le_trans V104.ch.size n111.fresh
                                                                        replace G := G.tr (Go.ofUp hF n111.up)
                                                                        replace V104 := V104.tr (Go.ofUp hF n111.up)
                                                                        replace hF := hF.up n111.up
                                                                        replace k2 := k2.up n111.up
                                                                        replace k12 := k12.up n111.up
                                                                        replace k22 := k22.up n111.up
                                                                        replace kS := kS.up n111.up
                                                                        replace U := U.tr n111.up
                                                                        have k111 := n111.blk
                                                                        refine l_effN (e_store sz_143 (et g0 rfl) (cellsV (et (gS rfl g0) rfl) rfl) len21 (by exact one_app (one_sgl rfl)) k111 (by exact Nat.le_of_ble_eq_true rfl)) (fun v112 w112 h112 => ?_)
                                                                        obtain ⟨rfl, x112⟩ := h112
                                                                        replace k2 := k2.ch x112.ch (by omega)
                                                                        replace k12 := k12.ch x112.ch (by omega)
                                                                        replace k22 := k22.ch x112.ch (by omega)
                                                                        replace kS := kS.ch x112.ch (by first | omega | (first | omega | exact hOo.ne (by omega)))
                                                                        replace k111 := x112.blk.full (by rw [len21]; rfl)
                                                                        replace G := G.wr x112 (by first | exact .inr f111 | omega | (simp; omega)) nb111
                                                                        replace V104 := V104.wr x112 (by first | exact .inr f111 | omega | (simp; omega)) nb111
                                                                        replace hF := G.fz
                                                                        replace U := U.st x112 (.inr f111)
                                                                        refine l_nil ?_
                                                                        refine hK110 _ _ ?_
                                                                        refine fg7 3 5 8 184 185 186 14 (gS rfl (gS rfl (gS rfl (gS rfl (gS rfl (gS rfl (gS rfl (gS rfl g0)))))))) (gS rfl (gS rfl (gS rfl (gS rfl (gS rfl (gS rfl (gS rfl g0))))))) (gS rfl (gS rfl (gS rfl (gS rfl (gS rfl (gS rfl g0)))))) (gS rfl (gS rfl (gS rfl (gS rfl (gS rfl g0))))) (gS rfl (gS rfl (gS rfl (gS rfl g0)))) (gS rfl (gS rfl (gS rfl g0))) g0 (fun g => ?_)
                                                                        refine c_seq (fun K113 hK113 => ?_)
                                                                        exact (by
                                                                          refine c_draw Up 5 [(0, true), (1, true), (2, true), (3, true), (4, true), (5, false)] (by kernel_rfl) (fun w114 hu => ⟨Up.refl _, ?_⟩)
                                                                          replace G := G.tr (Go.ofUp hF hu)
                                                                          replace V104 := V104.tr (Go.ofUp hF hu)
                                                                          replace hF := hF.up hu
                                                                          replace k2 := k2.up hu
                                                                          replace k12 := k12.up hu
                                                                          replace k22 := k22.up hu
                                                                          replace k111 := k111.up hu
                                                                          replace kS := kS.up hu
                                                                          replace U := U.tr hu
                                                                          have SU := Up.refl w114
                                                                          refine p_step (by exact rfl) (y_moveV (et (gS rfl (gS rfl (gS rfl (gS rfl (gS rfl g0))))) rfl)) ?_
                                                                          refine p_step (by exact rfl) (y_nil (et g0 rfl)) ?_
                                                                          refine p_step (by exact rfl) (y_fld fld_102_0 (et g0 rfl)) ?_
                                                                          refine p_step (by exact rfl) (y_fld fld_143_0 (et (gS rfl (gS rfl (gS rfl g0))) rfl)) ?_
                                                                          refine p_step (by exact rfl) (y_loadR agg_25 sz_25 (et g0 rfl) (by rw [length_bL, length_be]) (atSR (k111.row (RowIn.app _ _)))) ?_
                                                                          refine p_eff (by exact rfl) (e_callV cal_51 (aC (et (gS rfl (gS rfl g0)) rfl) (aC (et g0 rfl) aN)) (yp_warm _ 0 _ _ _ _ _ _ _ hF kS nbS (g_1 hc1) hA1 hal3 (by omega))) (fun v115 w115 h115 => ?_)
                                                                          obtain ⟨rfl, z115, H115, g115, lv115, kx115⟩ := h115
                                                                          have hlew115 := g115.le
                                                                          replace nb2 := g115.nb nb2 k2.lt
                                                                          replace nb12 := g115.nb nb12 k12.lt
                                                                          replace nb22 := g115.nb nb22 k22.lt
                                                                          replace nb111 := g115.nb nb111 k111.lt
                                                                          replace nbS := g115.nb nbS kS.lt
                                                                          replace pa10 := pa10.mono hlew115
                                                                          replace n34 := n34.mono hlew115
                                                                          replace n38 := n38.mono hlew115
                                                                          replace n39 := n39.mono hlew115
                                                                          replace hsP := hsP.mono hlew115
                                                                          replace n42 := n42.mono hlew115
                                                                          replace lvz76 := lvz76.mono hlew115
                                                                          replace hnn79 := hnn79.mono hlew115
                                                                          replace hbb79 := hbb79.mono hlew115
                                                                          replace hcd79 := hcd79.mono hlew115
                                                                          replace hss79 := hss79.mono hlew115
                                                                          replace n80 := n80.mono hlew115
                                                                          replace n81 := n81.mono hlew115
                                                                          replace lv82 := lv82.mono hlew115
                                                                          replace n85 := n85.mono hlew115
                                                                          replace n86 := n86.mono hlew115
                                                                          replace lv87 := lv87.mono hlew115
                                                                          replace lv90 := lv90.mono hlew115
                                                                          replace lv93 := lv93.mono hlew115
                                                                          replace lv96 := lv96.mono hlew115
                                                                          replace lv98 := lv98.mono hlew115
                                                                          replace lv100 := lv100.mono hlew115
                                                                          replace hA1 := hA1.mono hlew115
                                                                          replace hS1 := hS1.mono hlew115
                                                                          replace hL0 := hL0.trans hlew115
                                                                          replace k2 := k2.ch g115.ch (by omega)
                                                                          replace k12 := k12.ch g115.ch (by omega)
                                                                          replace k22 := k22.ch g115.ch (by omega)
                                                                          replace k111 := k111.ch g115.ch (by omega)
                                                                          replace kS := (by rw [s_121] at kx115; exact kx115)
                                                                          replace U := U.cc g115.ch (by intro b hb; first | omega | exact .inl hb | exact .inr (hb ▸ U))
                                                                          replace G := G.trans g115 (by intro b hb; first | omega | exact .inl hb | (simp at hb ⊢; omega))
                                                                          replace V104 := V104.trans g115 (by intro b hb; first | omega | exact .inl hb | (simp at hb ⊢; omega))
                                                                          replace hF := g115.fz
                                                                          obtain ⟨xa115, xc115, rfl, hxl115, hxc115⟩ := lv115.val
                                                                          refine ⟨.inl rfl, ?_⟩
                                                                          refine p_nil ?_
                                                                          refine hK113 _ _ ?_
                                                                          refine fg7 3 5 8 184 185 186 14 (gS rfl (gS rfl (gS rfl (gS rfl (gS rfl (gS rfl (gS rfl (gS rfl (gS rfl (gS rfl (gS rfl (gS rfl g0)))))))))))) (gS rfl (gS rfl (gS rfl (gS rfl (gS rfl (gS rfl (gS rfl (gS rfl (gS rfl (gS rfl (gS rfl g0))))))))))) (gS rfl (gS rfl (gS rfl (gS rfl (gS rfl (gS rfl (gS rfl (gS rfl (gS rfl (gS rfl g0)))))))))) (gS rfl (gS rfl (gS rfl (gS rfl (gS rfl (gS rfl (gS rfl (gS rfl (gS rfl g0))))))))) (gS rfl (gS rfl (gS rfl (gS rfl (gS rfl (gS rfl (gS rfl (gS rfl g0)))))))) (gS rfl (gS rfl (gS rfl (gS rfl (gS rfl (gS rfl (gS rfl g0))))))) (gS rfl (gS rfl (gS rfl (gS rfl (gS rfl (gS rfl g0)))))) (fun g => ?_)
                                                                          refine c_seq (fun K116 hK116 => ?_)
                                                                          exact (by
                                                                            refine c_region ?_
                                                                            refine l_step (y_fld fld_143_1 (et g0 rfl)) ?_
                                                                            refine l_step (y_load1 one_29 (et g0 rfl) (at1 (k111.cell ((app20 (i := 0) rfl).trans rfl)))) ?_
                                                                            refine l_step (y_len Hvaa.underlying29 (et g0 rfl)) ?_
                                                                            refine l_step y_moveC ?_
                                                                            refine l_nil ?_
                                                                            refine hK116 _ _ ?_
                                                                            refine fg10 3 5 8 184 185 186 14 197 198 199 (gS rfl (gS rfl (gS rfl (gS rfl (gS rfl (gS rfl (gS rfl (gS rfl (gS rfl (gS rfl g0)))))))))) (gS rfl (gS rfl (gS rfl (gS rfl (gS rfl (gS rfl (gS rfl (gS rfl (gS rfl g0))))))))) (gS rfl (gS rfl (gS rfl (gS rfl (gS rfl (gS rfl (gS rfl (gS rfl g0)))))))) (gS rfl (gS rfl (gS rfl (gS rfl (gS rfl (gS rfl (gS rfl g0))))))) (gS rfl (gS rfl (gS rfl (gS rfl (gS rfl (gS rfl g0)))))) (gS rfl (gS rfl (gS rfl (gS rfl (gS rfl g0))))) (gS rfl (gS rfl (gS rfl (gS rfl g0)))) (gS rfl (gS rfl g0)) (gS rfl g0) g0 (fun g => ?_)
                                                                            refine c_block (fun Q117 hQ117 => ?_)
                                                                            refine fg10 3 5 8 14 184 185 186 197 198 199 (gS rfl (gS rfl (gS rfl (gS rfl (gS rfl (gS rfl (gS rfl (gS rfl (gS rfl g0))))))))) (gS rfl (gS rfl (gS rfl (gS rfl (gS rfl (gS rfl (gS rfl (gS rfl g0)))))))) (gS rfl (gS rfl (gS rfl (gS rfl (gS rfl (gS rfl (gS rfl g0))))))) (gS rfl (gS rfl (gS rfl g0))) (gS rfl (gS rfl (gS rfl (gS rfl (gS rfl (gS rfl g0)))))) (gS rfl (gS rfl (gS rfl (gS rfl (gS rfl g0))))) (gS rfl (gS rfl (gS rfl (gS rfl g0)))) (gS rfl (gS rfl g0)) (gS rfl g0) g0 (fun g => ?_)
                                                                            refine c_loop (fun k_ s_ W118 => ∃ (g : Nat → Value) (Hk118 : Store) (vs2 : Value) (j : Nat), s_ = (upd (upd (upd (upd (upd (upd (upd (upd (upd (upd g 3 (.pointer (some ⟨b2, 0, none⟩))) 5 (.pointer (some ⟨bs, 0, none⟩))) 8 (.pointer (some ⟨b22, 0, none⟩))) 14 (.pointer (some ⟨b111, 0, none⟩))) 184 (.slice taa T.access.length tac)) 185 (.int .i64 (T.access.length : Nat))) 186 (.int .i64 (i : Nat))) 197 (.slice ka3 T.access[i].2.length kc3)) 198 (.int .i64 (T.access[i].2.length : Nat))) 199 (.int .i64 (j : Nat))) ∧ T.access[i].2.length - j = k_ ∧ (j ≤ T.access[i].2.length) ∧ (LV P_mark 21 Hk118 vs2 (wKeys (wrmY (wList (bW3 s T) (T.access.take i)) T.access[i].1) T.access[i].1 (T.access[i].2.take j)).warmS) ∧ ((wKeys (wrmY (wList (bW3 s T) (T.access.take i)) T.access[i].1) T.access[i].1 (T.access[i].2.take j)).warmS.length ≤ s.now.warmS.length + keysN (T.access.take i) + j) ∧ Blk W118 bs ((csC.setIfInBounds (0 + 1) (.slice xa115 (withA (wList (bW3 s T) (T.access.take i)).warmA T.access[i].1).length xc115)).setIfInBounds (0 + 2) vs2) ∧ Go (fun k => k = bs) w115 H115 W118 Hk118) (T.access[i].2.length - (0)) ?_ ?_
                                                                            · exact ⟨g, _, (.slice ws9 (wList (bW3 s T) (T.access.take i)).warmS.length wd9), 0, rfl, rfl, Nat.zero_le _, by rw [List.take_zero]; exact hS1, by rw [List.take_zero]; exact hlS, kS, Go.refl hF⟩
                                                                            · skip
                                                                              intro k_ s_ W118 hI K118 hK118
                                                                              obtain ⟨g, Hk118, vs2, j, rfl, rfl, hj, hS2, hlS2, nkS, V118⟩ := hI
                                                                              have hle118 := V118.le
                                                                              replace nb2 := V118.nb nb2 k2.lt
                                                                              replace nb12 := V118.nb nb12 k12.lt
                                                                              replace nb22 := V118.nb nb22 k22.lt
                                                                              replace nb111 := V118.nb nb111 k111.lt
                                                                              replace nbS := V118.nb nbS kS.lt
                                                                              replace pa10 := pa10.mono hle118
                                                                              replace n34 := n34.mono hle118
                                                                              replace n38 := n38.mono hle118
                                                                              replace n39 := n39.mono hle118
                                                                              replace hsP := hsP.mono hle118
                                                                              replace n42 := n42.mono hle118
                                                                              replace lvz76 := lvz76.mono hle118
                                                                              replace hnn79 := hnn79.mono hle118
                                                                              replace hbb79 := hbb79.mono hle118
                                                                              replace hcd79 := hcd79.mono hle118
                                                                              replace hss79 := hss79.mono hle118
                                                                              replace n80 := n80.mono hle118
                                                                              replace n81 := n81.mono hle118
                                                                              replace lv82 := lv82.mono hle118
                                                                              replace n85 := n85.mono hle118
                                                                              replace n86 := n86.mono hle118
                                                                              replace lv87 := lv87.mono hle118
                                                                              replace lv90 := lv90.mono hle118
                                                                              replace lv93 := lv93.mono hle118
                                                                              replace lv96 := lv96.mono hle118
                                                                              replace lv98 := lv98.mono hle118
                                                                              replace lv100 := lv100.mono hle118
                                                                              replace hA1 := hA1.mono hle118
                                                                              replace hS1 := hS1.mono hle118
                                                                              replace lv115 := lv115.mono hle118
                                                                              replace hL0 := hL0.trans hle118
                                                                              replace G := G.trans V118 (by intro b hb; first | exact hb.elim | omega | (simp at hb ⊢; omega))
                                                                              replace V104 := V104.trans V118 (by intro b hb; first | exact hb.elim | omega | (simp at hb ⊢; omega))
                                                                              replace hF := V118.fz
                                                                              replace k2 := k2.ch V118.ch (by omega)
                                                                              replace k12 := k12.ch V118.ch (by omega)
                                                                              replace k22 := k22.ch V118.ch (by omega)
                                                                              replace k111 := k111.ch V118.ch (by omega)
                                                                              replace kS := nkS
                                                                              replace U := U.cc V118.ch (by intro b hb; first | exact hb.elim | omega | (simp at hb ⊢; omega))
                                                                              obtain ⟨wt9, wu9, rfl, hst8, hsu8⟩ := hS2.val
                                                                              refine c_seq (fun K119 hK119 => ?_)
                                                                              exact (by
                                                                                refine c_region ?_
                                                                                refine l_step (y_lss (et g0 rfl) (et (gS rfl g0) rfl)) ?_
                                                                                refine l_nil ?_
                                                                                refine hK119 _ _ ?_
                                                                                refine c_seq (fun K120 hK120 => ?_)
                                                                                refine c_cond (et g0 rfl) (fun cB6 => ?_) (fun cB6 => ?_)
                                                                                · skip
                                                                                  
                                                                                  have hjl : j < T.access[i].2.length := by have := of_decide_eq_true cB6; omega
                                                                                  refine c_skip ?_
                                                                                  refine hK120 _ _ ?_
                                                                                  refine fg10 3 5 8 14 184 185 186 197 198 199 (gS rfl (gS rfl (gS rfl (gS rfl (gS rfl (gS rfl (gS rfl (gS rfl (gS rfl (gS rfl g0)))))))))) (gS rfl (gS rfl (gS rfl (gS rfl (gS rfl (gS rfl (gS rfl (gS rfl (gS rfl g0))))))))) (gS rfl (gS rfl (gS rfl (gS rfl (gS rfl (gS rfl (gS rfl (gS rfl g0)))))))) (gS rfl (gS rfl (gS rfl (gS rfl (gS rfl (gS rfl (gS rfl g0))))))) (gS rfl (gS rfl (gS rfl (gS rfl (gS rfl (gS rfl g0)))))) (gS rfl (gS rfl (gS rfl (gS rfl (gS rfl g0))))) (gS rfl (gS rfl (gS rfl (gS rfl g0)))) (gS rfl (gS rfl (gS rfl g0))) (gS rfl (gS rfl g0)) (gS rfl g0) (fun g => ?_)
                                                                                  refine c_seq (fun K122 hK122 => ?_)
                                                                                  refine c_block (fun Q123 hQ123 => ?_)
                                                                                  refine c_seq (fun K124 hK124 => ?_)
                                                                                  exact (by
                                                                                    refine c_region ?_
                                                                                    obtain ⟨bq4, oq4, r4, ha4, hrow4, hrl4, hr4, hkb4⟩ := hvk3.row (hF.le9 hL0) (i := j) hjl
                                                                                    rw [hr4] at hrow4 hrl4
                                                                                    refine l_step (y_idxSa ha4 Hvaa.underlying29 sz_28 (et (gS rfl (gS rfl g0)) rfl) (et g0 rfl) ?_) ?_
                                                                                    omega
                                                                                    refine l_step (y_loadR agg_28 sz_28 (et g0 rfl) (by rw [length_bL, length_be]) (at1R hrow4)) ?_
                                                                                    refine l_eff (e_alloc zr_28) (fun v125 w125 h125 => ?_)
                                                                                    obtain ⟨b125, rfl, n125⟩ := h125
                                                                                    have d2_125 : b2 < b125 := Nat.lt_of_lt_of_le k2.lt n125.fresh
                                                                                    have d12_125 : b12 < b125 := Nat.lt_of_lt_of_le k12.lt n125.fresh
                                                                                    have d22_125 : b22 < b125 := Nat.lt_of_lt_of_le k22.lt n125.fresh
                                                                                    have d111_125 : b111 < b125 := Nat.lt_of_lt_of_le k111.lt n125.fresh
                                                                                    have f125 : w.heap.size ≤ b125 := Nat.le_trans U.size n125.fresh
                                                                                    have nb125 := hF.nb n125.fresh
                                                                                    have fV104_125 := Nat.le_trans V104.ch.size n125.fresh
                                                                                    have fV118_125 := Nat.le_trans V118.ch.size n125.fresh
                                                                                    replace G := G.tr (Go.ofUp hF n125.up)
                                                                                    replace V104 := V104.tr (Go.ofUp hF n125.up)
                                                                                    replace V118 := V118.tr (Go.ofUp hF n125.up)
                                                                                    replace hF := hF.up n125.up
                                                                                    replace k2 := k2.up n125.up
                                                                                    replace k12 := k12.up n125.up
                                                                                    replace k22 := k22.up n125.up
                                                                                    replace k111 := k111.up n125.up
                                                                                    replace kS := kS.up n125.up
                                                                                    replace U := U.tr n125.up
                                                                                    have k125 := n125.blk
                                                                                    refine l_effN (e_store sz_28 (et g0 rfl) (cellsV (et (gS rfl g0) rfl) rfl) (by rw [length_bL, length_be]) (by exact one_bL _) k125 (by exact Nat.le_of_ble_eq_true rfl)) (fun v126 w126 h126 => ?_)
                                                                                    obtain ⟨rfl, x126⟩ := h126
                                                                                    replace k2 := k2.ch x126.ch (by omega)
                                                                                    replace k12 := k12.ch x126.ch (by omega)
                                                                                    replace k22 := k22.ch x126.ch (by omega)
                                                                                    replace k111 := k111.ch x126.ch (by omega)
                                                                                    replace kS := kS.ch x126.ch (by first | omega | (first | omega | exact hOo.ne (by omega)))
                                                                                    replace k125 := x126.blk.full (by rw [length_bL, length_be]; rfl)
                                                                                    replace G := G.wr x126 (by first | exact .inr f125 | omega | (simp; omega)) nb125
                                                                                    replace V104 := V104.wr x126 (by first | exact .inr f125 | omega | (simp; omega)) nb125
                                                                                    replace V118 := V118.wr x126 (by first | exact .inr f125 | omega | (simp; omega)) nb125
                                                                                    replace hF := G.fz
                                                                                    replace U := U.st x126 (.inr f125)
                                                                                    refine l_nil ?_
                                                                                    refine hK124 _ _ ?_
                                                                                    refine fg11 3 5 8 14 184 185 186 197 198 199 16 (gS rfl (gS rfl (gS rfl (gS rfl (gS rfl (gS rfl (gS rfl (gS rfl (gS rfl (gS rfl (gS rfl (gS rfl g0)))))))))))) (gS rfl (gS rfl (gS rfl (gS rfl (gS rfl (gS rfl (gS rfl (gS rfl (gS rfl (gS rfl (gS rfl g0))))))))))) (gS rfl (gS rfl (gS rfl (gS rfl (gS rfl (gS rfl (gS rfl (gS rfl (gS rfl (gS rfl g0)))))))))) (gS rfl (gS rfl (gS rfl (gS rfl (gS rfl (gS rfl (gS rfl (gS rfl (gS rfl g0))))))))) (gS rfl (gS rfl (gS rfl (gS rfl (gS rfl (gS rfl (gS rfl (gS rfl g0)))))))) (gS rfl (gS rfl (gS rfl (gS rfl (gS rfl (gS rfl (gS rfl g0))))))) (gS rfl (gS rfl (gS rfl (gS rfl (gS rfl (gS rfl g0)))))) (gS rfl (gS rfl (gS rfl (gS rfl (gS rfl g0))))) (gS rfl (gS rfl (gS rfl (gS rfl g0)))) (gS rfl (gS rfl (gS rfl g0))) g0 (fun g => ?_)
                                                                                    refine c_draw Up 7 [(0, true), (1, true), (2, true), (3, true), (4, true), (5, true), (6, false), (7, false)] (by kernel_rfl) (fun w127 hu => ⟨Up.refl _, ?_⟩)
                                                                                    replace G := G.tr (Go.ofUp hF hu)
                                                                                    replace V104 := V104.tr (Go.ofUp hF hu)
                                                                                    replace V118 := V118.tr (Go.ofUp hF hu)
                                                                                    replace hF := hF.up hu
                                                                                    replace k2 := k2.up hu
                                                                                    replace k12 := k12.up hu
                                                                                    replace k22 := k22.up hu
                                                                                    replace k111 := k111.up hu
                                                                                    replace k125 := k125.up hu
                                                                                    replace kS := kS.up hu
                                                                                    replace U := U.tr hu
                                                                                    have SU := Up.refl w127
                                                                                    exact (by
                                                                                      refine p_step (by exact rfl) (y_moveV (et (gS rfl (gS rfl (gS rfl (gS rfl (gS rfl (gS rfl (gS rfl (gS rfl (gS rfl g0))))))))) rfl)) ?_
                                                                                      refine p_step (by exact rfl) (y_nil (et g0 rfl)) ?_
                                                                                      refine p_step (by exact rfl) (y_fld fld_102_0 (et g0 rfl)) ?_
                                                                                      refine p_step (by exact rfl) (y_fld fld_143_0 (et (gS rfl (gS rfl (gS rfl (gS rfl (gS rfl (gS rfl (gS rfl (gS rfl (gS rfl (gS rfl g0)))))))))) rfl)) ?_
                                                                                      refine p_step (by exact rfl) (y_loadR agg_25 sz_25 (et g0 rfl) (by rw [length_bL, length_be]) (atSR (k111.row (RowIn.app _ _)))) ?_
                                                                                      refine p_step (by exact rfl) (y_slA000 Hvaa.underlying28 sz_5 (et (gS rfl (gS rfl (gS rfl (gS rfl (gS rfl g0))))) rfl) ) ?_
                                                                                      refine p_eff (by exact rfl) (e_callV cal_33 (aC (et g0 rfl) aN) (nat_fromRow hF (k125.row (RowIn.self (bL (be 32 T.access[i].2[j])))) k125.lt (bd_W hkb4) (by decide))) (fun v128 w128 h128 => ?_)
                                                                                      obtain ⟨H128, g128, n128⟩ := h128
                                                                                      have hlew128 := g128.le
                                                                                      replace nb2 := g128.nb nb2 k2.lt
                                                                                      replace nb12 := g128.nb nb12 k12.lt
                                                                                      replace nb22 := g128.nb nb22 k22.lt
                                                                                      replace nb111 := g128.nb nb111 k111.lt
                                                                                      replace nb125 := g128.nb nb125 k125.lt
                                                                                      replace nbS := g128.nb nbS kS.lt
                                                                                      replace pa10 := pa10.mono hlew128
                                                                                      replace n34 := n34.mono hlew128
                                                                                      replace n38 := n38.mono hlew128
                                                                                      replace n39 := n39.mono hlew128
                                                                                      replace hsP := hsP.mono hlew128
                                                                                      replace n42 := n42.mono hlew128
                                                                                      replace lvz76 := lvz76.mono hlew128
                                                                                      replace hnn79 := hnn79.mono hlew128
                                                                                      replace hbb79 := hbb79.mono hlew128
                                                                                      replace hcd79 := hcd79.mono hlew128
                                                                                      replace hss79 := hss79.mono hlew128
                                                                                      replace n80 := n80.mono hlew128
                                                                                      replace n81 := n81.mono hlew128
                                                                                      replace lv82 := lv82.mono hlew128
                                                                                      replace n85 := n85.mono hlew128
                                                                                      replace n86 := n86.mono hlew128
                                                                                      replace lv87 := lv87.mono hlew128
                                                                                      replace lv90 := lv90.mono hlew128
                                                                                      replace lv93 := lv93.mono hlew128
                                                                                      replace lv96 := lv96.mono hlew128
                                                                                      replace lv98 := lv98.mono hlew128
                                                                                      replace lv100 := lv100.mono hlew128
                                                                                      replace hA1 := hA1.mono hlew128
                                                                                      replace hS1 := hS1.mono hlew128
                                                                                      replace lv115 := lv115.mono hlew128
                                                                                      replace hS2 := hS2.mono hlew128
                                                                                      replace hL0 := hL0.trans hlew128
                                                                                      replace k2 := k2.up g128.up
                                                                                      replace k12 := k12.up g128.up
                                                                                      replace k22 := k22.up g128.up
                                                                                      replace k111 := k111.up g128.up
                                                                                      replace k125 := k125.up g128.up
                                                                                      replace kS := kS.up g128.up
                                                                                      replace U := U.tr g128.up
                                                                                      replace G := G.tr g128
                                                                                      replace V104 := V104.tr g128
                                                                                      replace V118 := V118.tr g128
                                                                                      replace hF := g128.fz
                                                                                      refine ⟨.inr (SU.tr g128.up), ?_⟩
                                                                                      replace SU := SU.tr g128.up
                                                                                      exact (by
                                                                                        refine p_eff (by exact rfl) (e_callV cal_52 (aC (et (gS rfl (gS rfl (gS rfl (gS rfl g0)))) rfl) (aC (et (gS rfl (gS rfl g0)) rfl) (aC (et g0 rfl) aN))) (yp_warmSlot _ 0 _ _ _ _ _ _ _ hF kS nbS (g_2 hc2) hS2 hal3 (by omega) n128 (bd_W hkb4))) (fun v129 w129 h129 => ?_)
                                                                                        obtain ⟨rfl, z129, H129, g129, lv129, kx129⟩ := h129
                                                                                        have hlew129 := g129.le
                                                                                        replace nb2 := g129.nb nb2 k2.lt
                                                                                        replace nb12 := g129.nb nb12 k12.lt
                                                                                        replace nb22 := g129.nb nb22 k22.lt
                                                                                        replace nb111 := g129.nb nb111 k111.lt
                                                                                        replace nb125 := g129.nb nb125 k125.lt
                                                                                        replace nbS := g129.nb nbS kS.lt
                                                                                        replace pa10 := pa10.mono hlew129
                                                                                        replace n34 := n34.mono hlew129
                                                                                        replace n38 := n38.mono hlew129
                                                                                        replace n39 := n39.mono hlew129
                                                                                        replace hsP := hsP.mono hlew129
                                                                                        replace n42 := n42.mono hlew129
                                                                                        replace lvz76 := lvz76.mono hlew129
                                                                                        replace hnn79 := hnn79.mono hlew129
                                                                                        replace hbb79 := hbb79.mono hlew129
                                                                                        replace hcd79 := hcd79.mono hlew129
                                                                                        replace hss79 := hss79.mono hlew129
                                                                                        replace n80 := n80.mono hlew129
                                                                                        replace n81 := n81.mono hlew129
                                                                                        replace lv82 := lv82.mono hlew129
                                                                                        replace n85 := n85.mono hlew129
                                                                                        replace n86 := n86.mono hlew129
                                                                                        replace lv87 := lv87.mono hlew129
                                                                                        replace lv90 := lv90.mono hlew129
                                                                                        replace lv93 := lv93.mono hlew129
                                                                                        replace lv96 := lv96.mono hlew129
                                                                                        replace lv98 := lv98.mono hlew129
                                                                                        replace lv100 := lv100.mono hlew129
                                                                                        replace hA1 := hA1.mono hlew129
                                                                                        replace hS1 := hS1.mono hlew129
                                                                                        replace lv115 := lv115.mono hlew129
                                                                                        replace hS2 := hS2.mono hlew129
                                                                                        replace n128 := n128.mono hlew129
                                                                                        replace hL0 := hL0.trans hlew129
                                                                                        replace k2 := k2.ch g129.ch (by omega)
                                                                                        replace k12 := k12.ch g129.ch (by omega)
                                                                                        replace k22 := k22.ch g129.ch (by omega)
                                                                                        replace k111 := k111.ch g129.ch (by omega)
                                                                                        replace k125 := k125.ch g129.ch (by omega)
                                                                                        replace kS := (by rw [set_set] at kx129; exact kx129)
                                                                                        replace U := U.cc g129.ch (by intro b hb; first | omega | exact .inl hb | exact .inr (hb ▸ U))
                                                                                        replace G := G.trans g129 (by intro b hb; first | omega | exact .inl hb | (simp at hb ⊢; omega))
                                                                                        replace V104 := V104.trans g129 (by intro b hb; first | omega | exact .inl hb | (simp at hb ⊢; omega))
                                                                                        replace V118 := V118.trans g129 (by intro b hb; first | omega | exact .inl hb | (simp at hb ⊢; omega))
                                                                                        replace hF := g129.fz
                                                                                        refine ⟨.inl rfl, ?_⟩
                                                                                        refine p_nil ?_
                                                                                        refine hQ123 _ _ _ (in_normal ?_)
                                                                                        refine hK122 _ _ ?_
                                                                                        refine fg10 3 5 8 14 184 185 186 197 198 199 (gS rfl (gS rfl (gS rfl (gS rfl (gS rfl (gS rfl (gS rfl (gS rfl (gS rfl (gS rfl (gS rfl (gS rfl (gS rfl (gS rfl (gS rfl (gS rfl (gS rfl (gS rfl g0)))))))))))))))))) (gS rfl (gS rfl (gS rfl (gS rfl (gS rfl (gS rfl (gS rfl (gS rfl (gS rfl (gS rfl (gS rfl (gS rfl (gS rfl (gS rfl (gS rfl (gS rfl (gS rfl g0))))))))))))))))) (gS rfl (gS rfl (gS rfl (gS rfl (gS rfl (gS rfl (gS rfl (gS rfl (gS rfl (gS rfl (gS rfl (gS rfl (gS rfl (gS rfl (gS rfl (gS rfl g0)))))))))))))))) (gS rfl (gS rfl (gS rfl (gS rfl (gS rfl (gS rfl (gS rfl (gS rfl (gS rfl (gS rfl (gS rfl (gS rfl (gS rfl (gS rfl (gS rfl g0))))))))))))))) (gS rfl (gS rfl (gS rfl (gS rfl (gS rfl (gS rfl (gS rfl (gS rfl (gS rfl (gS rfl (gS rfl (gS rfl (gS rfl (gS rfl g0)))))))))))))) (gS rfl (gS rfl (gS rfl (gS rfl (gS rfl (gS rfl (gS rfl (gS rfl (gS rfl (gS rfl (gS rfl (gS rfl (gS rfl g0))))))))))))) (gS rfl (gS rfl (gS rfl (gS rfl (gS rfl (gS rfl (gS rfl (gS rfl (gS rfl (gS rfl (gS rfl (gS rfl g0)))))))))))) (gS rfl (gS rfl (gS rfl (gS rfl (gS rfl (gS rfl (gS rfl (gS rfl (gS rfl (gS rfl (gS rfl g0))))))))))) (gS rfl (gS rfl (gS rfl (gS rfl (gS rfl (gS rfl (gS rfl (gS rfl (gS rfl (gS rfl g0)))))))))) (gS rfl (gS rfl (gS rfl (gS rfl (gS rfl (gS rfl (gS rfl (gS rfl (gS rfl g0))))))))) (fun g => ?_)
                                                                                        refine c_region ?_
                                                                                        exact (by
                                                                                          refine l_step (y_add (et g0 rfl) rfl (addIN (y := 1) ?_)) ?_
                                                                                          omega
                                                                                          refine l_step (y_moveV (et g0 rfl)) ?_
                                                                                          refine l_nil ?_
                                                                                          refine fK10 3 5 8 14 184 185 186 197 198 199 (gS rfl (gS rfl (gS rfl (gS rfl (gS rfl (gS rfl (gS rfl (gS rfl (gS rfl (gS rfl (gS rfl g0))))))))))) (gS rfl (gS rfl (gS rfl (gS rfl (gS rfl (gS rfl (gS rfl (gS rfl (gS rfl (gS rfl g0)))))))))) (gS rfl (gS rfl (gS rfl (gS rfl (gS rfl (gS rfl (gS rfl (gS rfl (gS rfl g0))))))))) (gS rfl (gS rfl (gS rfl (gS rfl (gS rfl (gS rfl (gS rfl (gS rfl g0)))))))) (gS rfl (gS rfl (gS rfl (gS rfl (gS rfl (gS rfl (gS rfl g0))))))) (gS rfl (gS rfl (gS rfl (gS rfl (gS rfl (gS rfl g0)))))) (gS rfl (gS rfl (gS rfl (gS rfl (gS rfl g0))))) (gS rfl (gS rfl (gS rfl (gS rfl g0)))) (gS rfl (gS rfl (gS rfl g0))) g0 (fun g => ?_)
                                                                                          exact hK118 (T.access[i].2.length - ((j + 1))) _ _ (by omega) ⟨g, _, _, (j + 1), rfl, rfl, by omega, by rw [wk_take hjl]; exact lv129, by rw [wk_take hjl]; have h9 := len_withM (wKeys (wrmY (wList (bW3 s T) (T.access.take i)) T.access[i].1) T.access[i].1 (T.access[i].2.take j)).warmS T.access[i].1 T.access[i].2[j]; omega, kS, V118⟩))))
                                                                                · skip
                                                                                  
                                                                                  have hjl : j = T.access[i].2.length := by have := of_decide_eq_false cB6; omega
                                                                                  rw [hjl, List.take_length] at hS2 hlS2 kS
                                                                                  refine c_exit ?_
                                                                                  refine hQ117 _ _ _ (in_exit ?_)
                                                                                  refine hQ109 _ _ _ (in_normal ?_)
                                                                                  refine hK108 _ _ ?_
                                                                                  refine fg6 3 5 8 184 185 186 (gS rfl (gS rfl (gS rfl (gS rfl (gS rfl (gS rfl (gS rfl (gS rfl (gS rfl (gS rfl g0)))))))))) (gS rfl (gS rfl (gS rfl (gS rfl (gS rfl (gS rfl (gS rfl (gS rfl (gS rfl g0))))))))) (gS rfl (gS rfl (gS rfl (gS rfl (gS rfl (gS rfl (gS rfl (gS rfl g0)))))))) (gS rfl (gS rfl (gS rfl (gS rfl (gS rfl (gS rfl g0)))))) (gS rfl (gS rfl (gS rfl (gS rfl (gS rfl g0))))) (gS rfl (gS rfl (gS rfl (gS rfl g0)))) (fun g => ?_)
                                                                                  exact (by
                                                                                    refine c_region ?_
                                                                                    refine l_step (y_add (et g0 rfl) rfl (addIN (y := 1) ?_)) ?_
                                                                                    omega
                                                                                    refine l_step (y_moveV (et g0 rfl)) ?_
                                                                                    refine l_nil ?_
                                                                                    refine fK6 3 5 8 184 185 186 (gS rfl (gS rfl (gS rfl (gS rfl (gS rfl (gS rfl (gS rfl g0))))))) (gS rfl (gS rfl (gS rfl (gS rfl (gS rfl (gS rfl g0)))))) (gS rfl (gS rfl (gS rfl (gS rfl (gS rfl g0))))) (gS rfl (gS rfl (gS rfl (gS rfl g0)))) (gS rfl (gS rfl (gS rfl g0))) g0 (fun g => ?_)
                                                                                    exact hK104 (T.access.length - ((i + 1))) _ _ (by omega) ⟨g, _, _, _, (i + 1), rfl, rfl, by omega, by rw [wl_take hil, wk_warmA]; exact lv115, by rw [wl_take hil]; exact hS2, by rw [wl_take hil, wk_warmA]; have h9 := len_withA (wList (bW3 s T) (T.access.take i)).warmA T.access[i].1; exact Nat.le_trans h9 (by omega), by rw [wl_take hil]; have h9 := keys_take hil; exact Nat.le_trans hlS2 (by omega), kS, V104⟩)))))
                                                                    · skip
                                                                      
                                                                      have hil : i = T.access.length := by have := of_decide_eq_false cB5; omega
                                                                      subst hil
                                                                      rw [List.take_length] at hA1 hS1 hlA hlS kS
                                                                      replace kS : Blk W104 bs ((csC.setIfInBounds (0 + 1) (.slice wa9 (bW s T).warmA.length wc9)).setIfInBounds (0 + 2) (.slice ws9 (bW s T).warmS.length wd9)) := kS
                                                                      replace rOr := row_12o (va := (.slice wa9 (bW s T).warmA.length wc9)) (vs := (.slice ws9 (bW s T).warmS.length wd9)) rOr (by decide)
                                                                      replace rMd := row_12o (va := (.slice wa9 (bW s T).warmA.length wc9)) (vs := (.slice ws9 (bW s T).warmS.length wd9)) rMd (by decide)
                                                                      replace rE1 := row_12o (va := (.slice wa9 (bW s T).warmA.length wc9)) (vs := (.slice ws9 (bW s T).warmS.length wd9)) rE1 (by decide)
                                                                      replace rE2 := row_12o (va := (.slice wa9 (bW s T).warmA.length wc9)) (vs := (.slice ws9 (bW s T).warmS.length wd9)) rE2 (by decide)
                                                                      replace rE3 := row_12o (va := (.slice wa9 (bW s T).warmA.length wc9)) (vs := (.slice ws9 (bW s T).warmS.length wd9)) rE3 (by decide)
                                                                      replace rE4 := row_12o (va := (.slice wa9 (bW s T).warmA.length wc9)) (vs := (.slice ws9 (bW s T).warmS.length wd9)) rE4 (by decide)
                                                                      replace rE5 := row_12o (va := (.slice wa9 (bW s T).warmA.length wc9)) (vs := (.slice ws9 (bW s T).warmS.length wd9)) rE5 (by decide)
                                                                      replace rE6 := row_12o (va := (.slice wa9 (bW s T).warmA.length wc9)) (vs := (.slice ws9 (bW s T).warmS.length wd9)) rE6 (by decide)
                                                                      replace eC := eC.s12 (va := (.slice wa9 (bW s T).warmA.length wc9)) (vs := (.slice ws9 (bW s T).warmS.length wd9))
                                                                      replace rS : RowIn _ _ [_, .slice wa9 (bW s T).warmA.length wc9, .slice ws9 (bW s T).warmS.length wd9, vr, .slice la s.now.logs.length lc, .slice ta s.now.temps.length tc, .slice ma s.now.made.length mc, .slice ga s.now.gone.length gc, .slice sta (startL s.now.accts).length stc, .slice none 0 0, .slice ra s.ret.length rc, .int .u8 (s.phase : Nat), .int .u8 (s.status : Nat), .int .u8 ((s.applied + 1 : Nat) : Int), .slice sa35 sn35 sc35, .slice sa40 sn40 sc40, vleft, .slice sa43 sn43 sc43, vtot] := row_12 (va := (.slice wa9 (bW s T).warmA.length wc9)) (vs := (.slice ws9 (bW s T).warmS.length wd9)) rS
                                                                      refine c_exit ?_
                                                                      refine hQ103 _ _ _ (in_exit ?_)
                                                                      refine hK101 _ _ ?_
                                                                      refine fg3 3 5 8 (gS rfl (gS rfl (gS rfl (gS rfl (gS rfl (gS rfl g0)))))) (gS rfl (gS rfl (gS rfl (gS rfl (gS rfl g0))))) (gS rfl (gS rfl (gS rfl (gS rfl g0)))) (fun g => ?_)
                                                                      refine c_seq (fun K130 hK130 => ?_)
                                                                      exact (by
                                                                        refine c_region ?_
                                                                        refine l_step (y_moveV (et (gS rfl g0) rfl)) ?_
                                                                        refine l_step (y_nil (et g0 rfl)) ?_
                                                                        refine l_step (y_fld fld_102_3 (et g0 rfl)) ?_
                                                                        have rl131 := RowIn.le rS (Nat.succ_pos _)
                                                                        simp only [List.length_cons, List.length_nil, Nat.zero_add, Nat.reduceAdd] at rl131
                                                                        refine l_effN (e_store sz_38 (et g0 rfl) (cellsV rfl rfl) rfl (by first | exact one_bL _ | exact one_uL _ | (intro v hv; simp at hv; subst hv; rfl)) kS (by first | exact Nat.le_trans (by omega) rl131 | exact Nat.le_of_ble_eq_true rfl | (simp; done) | (simp; omega) | omega | (simp only [size_spl, Array.size_setIfInBounds, hs.size]; exact Nat.le_of_ble_eq_true rfl))) (fun v131 w131 h131 => ?_)
                                                                        obtain ⟨rfl, x131⟩ := h131
                                                                        replace k2 := k2.ch x131.ch (by omega)
                                                                        replace k12 := k12.ch x131.ch (by omega)
                                                                        replace k22 := k22.ch x131.ch (by omega)
                                                                        replace kS := x131.blk
                                                                        replace G := G.wr x131 (.inl (by first | rfl | (simp; done))) nbS
                                                                        replace hF := G.fz
                                                                        replace U := U.st x131 (.inl (by first | rfl | (simp; done)))
                                                                        replace eC := kS.eput eC (by omega)
                                                                        replace rS : RowIn _ _ [_, .slice wa9 (bW s T).warmA.length wc9, .slice ws9 (bW s T).warmS.length wd9, vr, .slice la s.now.logs.length lc, .slice ta s.now.temps.length tc, .slice ma s.now.made.length mc, .slice ga s.now.gone.length gc, .slice sta (startL s.now.accts).length stc, .slice none 0 0, .slice none 0 0, .int .u8 (s.phase : Nat), .int .u8 (s.status : Nat), .int .u8 ((s.applied + 1 : Nat) : Int), .slice sa35 sn35 sc35, .slice sa40 sn40 sc40, vleft, .slice sa43 sn43 sc43, vtot] := kS.rput rS 10 rfl
                                                                        replace rOr := kS.rputo rOr (by first | (left; omega) | (right; simp only [List.length_cons, List.length_nil, length_bL, length_be]; omega))
                                                                        replace rMd := kS.rputo rMd (by first | (left; omega) | (right; simp only [List.length_cons, List.length_nil, length_bL, length_be]; omega))
                                                                        replace rE1 := kS.rputo rE1 (by first | (left; omega) | (right; simp only [List.length_cons, List.length_nil, length_bL, length_be]; omega))
                                                                        replace rE2 := kS.rputo rE2 (by first | (left; omega) | (right; simp only [List.length_cons, List.length_nil, length_bL, length_be]; omega))
                                                                        replace rE3 := kS.rputo rE3 (by first | (left; omega) | (right; simp only [List.length_cons, List.length_nil, length_bL, length_be]; omega))
                                                                        replace rE4 := kS.rputo rE4 (by first | (left; omega) | (right; simp only [List.length_cons, List.length_nil, length_bL, length_be]; omega))
                                                                        replace rE5 := kS.rputo rE5 (by first | (left; omega) | (right; simp only [List.length_cons, List.length_nil, length_bL, length_be]; omega))
                                                                        replace rE6 := kS.rputo rE6 (by first | (left; omega) | (right; simp only [List.length_cons, List.length_nil, length_bL, length_be]; omega))
                                                                        refine l_nil ?_
                                                                        refine hK130 _ _ ?_
                                                                        refine fg3 3 5 8 (gS rfl (gS rfl (gS rfl (gS rfl (gS rfl g0))))) (gS rfl (gS rfl (gS rfl (gS rfl g0)))) (gS rfl (gS rfl (gS rfl g0))) (fun g => ?_)
                                                                        refine c_seq (fun K132 hK132 => ?_)
                                                                        exact (by
                                                                          refine fgv3 3 5 8 (gS rfl (gS rfl g0)) (gS rfl g0) g0 (fun g z3 z5 z8 e3 e5 e8 => ?_)
                                                                          refine c_drawJ (fun s_ w_ => ∃ (g : Nat → Value) (b134 : Nat) (vv9 : Value) (Hj133 : Store), s_ = (upd (upd (upd (upd g 3 z3) 5 z5) 8 z8) 17 (.pointer (some ⟨b134, 0, none⟩))) ∧ Go No w131 Hk104 w_ Hj133 ∧ w131.heap.size ≤ b134 ∧ Blk w_ b134 ((bfr 0 0 (.slice sa40 sn40 sc40) vv9 (.slice none 0 0) (.slice none 0 0) T.to T.frm).toArray) ∧ ¬ Hj133.has b134 ∧ (NV Hj133 vv9 T.value)) Up 12 (.pure 0 (.pure 1 (.pure 2 (.pure 3 (.pure 4 (.pure 5 (.pure 7 (.pure 8 (.pure 9 (.two 6 (.pure 10 (.eff 11 (.eff 12 .fin))) 11 (.eff 6 (.pure 10 (.eff 12 .fin))))))))))))) (by kernel_rfl) (fun w135 hu => ⟨Up.refl _, ?_⟩) ?_
                                                                          · skip
                                                                            subst e3 e5 e8
                                                                            replace G := G.tr (Go.ofUp hF hu)
                                                                            replace hF := hF.up hu
                                                                            replace k2 := k2.up hu
                                                                            replace k12 := k12.up hu
                                                                            replace k22 := k22.up hu
                                                                            replace kS := kS.up hu
                                                                            replace U := U.tr hu
                                                                            have SU := Up.refl w135
                                                                            have V133 : Go No w131 Hk104 w135 Hk104 := ⟨hu, hF, Le.refl _, fun _ h => .inl h⟩
                                                                            refine t_step (by exact rfl) (y_moveV (et (gS rfl g0) rfl)) ?_
                                                                            refine t_step (by exact rfl) (y_nil (et g0 rfl)) ?_
                                                                            refine t_step (by exact rfl) (y_fld fld_102_8 (et g0 rfl)) ?_
                                                                            refine t_step (by exact rfl) (y_load1 one_95 (et g0 rfl) (atS (kS.cell (rS 15 _ rfl)))) ?_
                                                                            refine t_step (by exact rfl) (y_fld fld_41_6 (et (gS rfl (gS rfl (gS rfl (gS rfl (gS rfl (gS rfl g0)))))) rfl)) ?_
                                                                            refine t_step (by exact rfl) (y_slA000 Hvaa.underlying28 sz_5 (et g0 rfl) ) ?_
                                                                            refine t_step (by exact rfl) (y_loadB agg_25 sz_25 (et (gS rfl (gS rfl (gS rfl (gS rfl (gS rfl (gS rfl g0)))))) rfl) (by rw [List.size_toArray, length_bL, length_be]) (atSB k22)) ?_
                                                                            refine t_step (by exact rfl) (y_fld fld_41_0 (et (gS rfl (gS rfl (gS rfl (gS rfl (gS rfl (gS rfl (gS rfl (gS rfl (gS rfl g0))))))))) rfl)) ?_
                                                                            refine t_step (by exact rfl) (y_loadR agg_25 sz_25 (et g0 rfl) (by rw [length_bL, length_be]) (atSR (k2.row rT1))) ?_
                                                                            refine t_two ?_ ?_
                                                                            · skip
                                                                              refine t_eff (by exact rfl) (e_callV cal_33 (aC (et (gS rfl (gS rfl (gS rfl g0))) rfl) aN) (nat_fromRow hF (k2.row rT5) k2.lt (bd_W tok.value) (by decide))) (fun v136 w136 h136 => ?_)
                                                                              obtain ⟨H136, g136, n136⟩ := h136
                                                                              have hlew136 := g136.le
                                                                              replace nb2 := g136.nb nb2 k2.lt
                                                                              replace nb12 := g136.nb nb12 k12.lt
                                                                              replace nb22 := g136.nb nb22 k22.lt
                                                                              replace nbS := g136.nb nbS kS.lt
                                                                              replace pa10 := pa10.mono hlew136
                                                                              replace n34 := n34.mono hlew136
                                                                              replace n38 := n38.mono hlew136
                                                                              replace n39 := n39.mono hlew136
                                                                              replace hsP := hsP.mono hlew136
                                                                              replace n42 := n42.mono hlew136
                                                                              replace lvz76 := lvz76.mono hlew136
                                                                              replace hnn79 := hnn79.mono hlew136
                                                                              replace hbb79 := hbb79.mono hlew136
                                                                              replace hcd79 := hcd79.mono hlew136
                                                                              replace hss79 := hss79.mono hlew136
                                                                              replace n80 := n80.mono hlew136
                                                                              replace n81 := n81.mono hlew136
                                                                              replace lv82 := lv82.mono hlew136
                                                                              replace n85 := n85.mono hlew136
                                                                              replace n86 := n86.mono hlew136
                                                                              replace lv87 := lv87.mono hlew136
                                                                              replace lv90 := lv90.mono hlew136
                                                                              replace lv93 := lv93.mono hlew136
                                                                              replace lv96 := lv96.mono hlew136
                                                                              replace lv98 := lv98.mono hlew136
                                                                              replace lv100 := lv100.mono hlew136
                                                                              replace hA1 := hA1.mono hlew136
                                                                              replace hS1 := hS1.mono hlew136
                                                                              replace hL0 := hL0.trans hlew136
                                                                              replace k2 := k2.up g136.up
                                                                              replace k12 := k12.up g136.up
                                                                              replace k22 := k22.up g136.up
                                                                              replace kS := kS.up g136.up
                                                                              replace U := U.tr g136.up
                                                                              replace G := G.tr g136
                                                                              replace V133 := V133.tr g136
                                                                              replace hF := g136.fz
                                                                              refine ⟨.inr (SU.tr g136.up), ?_⟩
                                                                              replace SU := SU.tr g136.up
                                                                              refine t_step (by exact rfl) ((y_bldBF n39.one1 n136.one1 (et (gS rfl (gS rfl (gS rfl (gS rfl (gS rfl (gS rfl g0)))))) rfl) (et g0 rfl) (et (gS rfl (gS rfl (gS rfl g0))) rfl) (et (gS rfl g0) rfl))) ?_
                                                                              refine t_one ?_
                                                                              refine t_eff (by exact rfl) (e_alloc zr_146) (fun v137 w137 h137 => ?_)
                                                                              obtain ⟨b137, rfl, n137⟩ := h137
                                                                              have d2_137 : b2 < b137 := Nat.lt_of_lt_of_le k2.lt n137.fresh
                                                                              have d12_137 : b12 < b137 := Nat.lt_of_lt_of_le k12.lt n137.fresh
                                                                              have d22_137 : b22 < b137 := Nat.lt_of_lt_of_le k22.lt n137.fresh
                                                                              have f137 : w.heap.size ≤ b137 := Nat.le_trans U.size n137.fresh
                                                                              have nb137 := hF.nb n137.fresh
                                                                              have fS137 := Nat.le_trans SU.size n137.fresh
                                                                              have fV133_137 := Nat.le_trans V133.ch.size n137.fresh
                                                                              replace G := G.tr (Go.ofUp hF n137.up)
                                                                              replace V133 := V133.tr (Go.ofUp hF n137.up)
                                                                              replace hF := hF.up n137.up
                                                                              replace k2 := k2.up n137.up
                                                                              replace k12 := k12.up n137.up
                                                                              replace k22 := k22.up n137.up
                                                                              replace kS := kS.up n137.up
                                                                              replace U := U.tr n137.up
                                                                              have k137 := n137.blk
                                                                              refine ⟨.inr (SU.tr n137.up), ?_⟩
                                                                              replace SU := SU.tr n137.up
                                                                              refine t_one ?_
                                                                              refine t_effN (by exact rfl) (e_store sz_146 (et g0 rfl) (cellsV (et (gS rfl g0) rfl) rfl) bfr_len (by exact bfr_one n39.one1 n136.one1 rfl rfl) k137 (by exact Nat.le_of_ble_eq_true rfl)) (fun v138 w138 h138 => ?_)
                                                                              obtain ⟨rfl, x138⟩ := h138
                                                                              replace k2 := k2.ch x138.ch (by omega)
                                                                              replace k12 := k12.ch x138.ch (by omega)
                                                                              replace k22 := k22.ch x138.ch (by omega)
                                                                              replace kS := kS.ch x138.ch (by first | omega | (first | omega | exact hOo.ne (by omega)))
                                                                              replace k137 := x138.blk.full (by rw [bfr_len]; rfl)
                                                                              replace G := G.wr x138 (by first | exact .inr f137 | omega | (simp; omega)) nb137
                                                                              replace V133 := V133.wr x138 (by first | exact .inr f137 | omega | (simp; omega)) nb137
                                                                              replace hF := G.fz
                                                                              replace U := U.st x138 (.inr f137)
                                                                              refine ⟨.inl rfl, ?_⟩
                                                                              refine tl4 3 5 8 17 (gS rfl (gS rfl (gS rfl (gS rfl (gS rfl (gS rfl (gS rfl (gS rfl (gS rfl (gS rfl (gS rfl (gS rfl (gS rfl (gS rfl g0)))))))))))))) (gS rfl (gS rfl (gS rfl (gS rfl (gS rfl (gS rfl (gS rfl (gS rfl (gS rfl (gS rfl (gS rfl (gS rfl (gS rfl g0))))))))))))) (gS rfl (gS rfl (gS rfl (gS rfl (gS rfl (gS rfl (gS rfl (gS rfl (gS rfl (gS rfl (gS rfl (gS rfl g0)))))))))))) g0 (fun g => ?_)
                                                                              exact ⟨g, _, _, _, rfl, V133, Nat.le_trans hu.size fS137, k137, nb137, n136⟩
                                                                            · skip
                                                                              refine t_eff (by exact rfl) (e_alloc zr_146) (fun v139 w139 h139 => ?_)
                                                                              obtain ⟨b139, rfl, n139⟩ := h139
                                                                              have d2_139 : b2 < b139 := Nat.lt_of_lt_of_le k2.lt n139.fresh
                                                                              have d12_139 : b12 < b139 := Nat.lt_of_lt_of_le k12.lt n139.fresh
                                                                              have d22_139 : b22 < b139 := Nat.lt_of_lt_of_le k22.lt n139.fresh
                                                                              have f139 : w.heap.size ≤ b139 := Nat.le_trans U.size n139.fresh
                                                                              have nb139 := hF.nb n139.fresh
                                                                              have fS139 := Nat.le_trans SU.size n139.fresh
                                                                              have fV133_139 := Nat.le_trans V133.ch.size n139.fresh
                                                                              replace G := G.tr (Go.ofUp hF n139.up)
                                                                              replace V133 := V133.tr (Go.ofUp hF n139.up)
                                                                              replace hF := hF.up n139.up
                                                                              replace k2 := k2.up n139.up
                                                                              replace k12 := k12.up n139.up
                                                                              replace k22 := k22.up n139.up
                                                                              replace kS := kS.up n139.up
                                                                              replace U := U.tr n139.up
                                                                              have k139 := n139.blk
                                                                              refine ⟨.inr (SU.tr n139.up), ?_⟩
                                                                              replace SU := SU.tr n139.up
                                                                              refine t_one ?_
                                                                              refine t_eff (by exact rfl) (e_callV cal_33 (aC (et (gS rfl (gS rfl (gS rfl (gS rfl g0)))) rfl) aN) (nat_fromRow hF (k2.row rT5) k2.lt (bd_W tok.value) (by decide))) (fun v140 w140 h140 => ?_)
                                                                              obtain ⟨H140, g140, n140⟩ := h140
                                                                              have hlew140 := g140.le
                                                                              replace nb2 := g140.nb nb2 k2.lt
                                                                              replace nb12 := g140.nb nb12 k12.lt
                                                                              replace nb22 := g140.nb nb22 k22.lt
                                                                              replace nb139 := g140.nb nb139 k139.lt
                                                                              replace nbS := g140.nb nbS kS.lt
                                                                              replace pa10 := pa10.mono hlew140
                                                                              replace n34 := n34.mono hlew140
                                                                              replace n38 := n38.mono hlew140
                                                                              replace n39 := n39.mono hlew140
                                                                              replace hsP := hsP.mono hlew140
                                                                              replace n42 := n42.mono hlew140
                                                                              replace lvz76 := lvz76.mono hlew140
                                                                              replace hnn79 := hnn79.mono hlew140
                                                                              replace hbb79 := hbb79.mono hlew140
                                                                              replace hcd79 := hcd79.mono hlew140
                                                                              replace hss79 := hss79.mono hlew140
                                                                              replace n80 := n80.mono hlew140
                                                                              replace n81 := n81.mono hlew140
                                                                              replace lv82 := lv82.mono hlew140
                                                                              replace n85 := n85.mono hlew140
                                                                              replace n86 := n86.mono hlew140
                                                                              replace lv87 := lv87.mono hlew140
                                                                              replace lv90 := lv90.mono hlew140
                                                                              replace lv93 := lv93.mono hlew140
                                                                              replace lv96 := lv96.mono hlew140
                                                                              replace lv98 := lv98.mono hlew140
                                                                              replace lv100 := lv100.mono hlew140
                                                                              replace hA1 := hA1.mono hlew140
                                                                              replace hS1 := hS1.mono hlew140
                                                                              replace hL0 := hL0.trans hlew140
                                                                              replace k2 := k2.up g140.up
                                                                              replace k12 := k12.up g140.up
                                                                              replace k22 := k22.up g140.up
                                                                              replace k139 := k139.up g140.up
                                                                              replace kS := kS.up g140.up
                                                                              replace U := U.tr g140.up
                                                                              replace G := G.tr g140
                                                                              replace V133 := V133.tr g140
                                                                              replace hF := g140.fz
                                                                              refine ⟨.inr (SU.tr g140.up), ?_⟩
                                                                              replace SU := SU.tr g140.up
                                                                              refine t_step (by exact rfl) ((y_bldBF n39.one1 n140.one1 (et (gS rfl (gS rfl (gS rfl (gS rfl (gS rfl (gS rfl (gS rfl g0))))))) rfl) (et g0 rfl) (et (gS rfl (gS rfl (gS rfl (gS rfl g0)))) rfl) (et (gS rfl (gS rfl g0)) rfl))) ?_
                                                                              refine t_one ?_
                                                                              refine t_effN (by exact rfl) (e_store sz_146 (et (gS rfl (gS rfl g0)) rfl) (cellsV (et g0 rfl) rfl) bfr_len (by exact bfr_one n39.one1 n140.one1 rfl rfl) k139 (by exact Nat.le_of_ble_eq_true rfl)) (fun v141 w141 h141 => ?_)
                                                                              obtain ⟨rfl, x141⟩ := h141
                                                                              replace k2 := k2.ch x141.ch (by omega)
                                                                              replace k12 := k12.ch x141.ch (by omega)
                                                                              replace k22 := k22.ch x141.ch (by omega)
                                                                              replace kS := kS.ch x141.ch (by first | omega | (first | omega | exact hOo.ne (by omega)))
                                                                              replace k139 := x141.blk.full (by rw [bfr_len]; rfl)
                                                                              replace G := G.wr x141 (by first | exact .inr f139 | omega | (simp; omega)) nb139
                                                                              replace V133 := V133.wr x141 (by first | exact .inr f139 | omega | (simp; omega)) nb139
                                                                              replace hF := G.fz
                                                                              replace U := U.st x141 (.inr f139)
                                                                              refine ⟨.inl rfl, ?_⟩
                                                                              refine tl4 3 5 8 17 (gS rfl (gS rfl (gS rfl (gS rfl (gS rfl (gS rfl (gS rfl (gS rfl (gS rfl (gS rfl (gS rfl (gS rfl (gS rfl (gS rfl g0)))))))))))))) (gS rfl (gS rfl (gS rfl (gS rfl (gS rfl (gS rfl (gS rfl (gS rfl (gS rfl (gS rfl (gS rfl (gS rfl (gS rfl g0))))))))))))) (gS rfl (gS rfl (gS rfl (gS rfl (gS rfl (gS rfl (gS rfl (gS rfl (gS rfl (gS rfl (gS rfl (gS rfl g0)))))))))))) (gS rfl (gS rfl g0)) (fun g => ?_)
                                                                              exact ⟨g, _, _, _, rfl, V133, Nat.le_trans hu.size fS139, k139, nb139, n140⟩
                                                                          intro s_ w142 hJ
                                                                          obtain ⟨g, b134, vv9, Hj133, rfl, V133, fn134, kn134, nb134, hvv9⟩ := hJ
                                                                          subst e3 e5 e8
                                                                          have d2_134 : b2 < b134 := Nat.lt_of_lt_of_le k2.lt fn134
                                                                          have d12_134 : b12 < b134 := Nat.lt_of_lt_of_le k12.lt fn134
                                                                          have d22_134 : b22 < b134 := Nat.lt_of_lt_of_le k22.lt fn134
                                                                          have f134 : w.heap.size ≤ b134 := Nat.le_trans U.size fn134
                                                                          have hlew142 := V133.le
                                                                          replace nb2 := V133.nb nb2 k2.lt
                                                                          replace nb12 := V133.nb nb12 k12.lt
                                                                          replace nb22 := V133.nb nb22 k22.lt
                                                                          replace nbS := V133.nb nbS kS.lt
                                                                          replace pa10 := pa10.mono hlew142
                                                                          replace n34 := n34.mono hlew142
                                                                          replace n38 := n38.mono hlew142
                                                                          replace n39 := n39.mono hlew142
                                                                          replace hsP := hsP.mono hlew142
                                                                          replace n42 := n42.mono hlew142
                                                                          replace lvz76 := lvz76.mono hlew142
                                                                          replace hnn79 := hnn79.mono hlew142
                                                                          replace hbb79 := hbb79.mono hlew142
                                                                          replace hcd79 := hcd79.mono hlew142
                                                                          replace hss79 := hss79.mono hlew142
                                                                          replace n80 := n80.mono hlew142
                                                                          replace n81 := n81.mono hlew142
                                                                          replace lv82 := lv82.mono hlew142
                                                                          replace n85 := n85.mono hlew142
                                                                          replace n86 := n86.mono hlew142
                                                                          replace lv87 := lv87.mono hlew142
                                                                          replace lv90 := lv90.mono hlew142
                                                                          replace lv93 := lv93.mono hlew142
                                                                          replace lv96 := lv96.mono hlew142
                                                                          replace lv98 := lv98.mono hlew142
                                                                          replace lv100 := lv100.mono hlew142
                                                                          replace hA1 := hA1.mono hlew142
                                                                          replace hS1 := hS1.mono hlew142
                                                                          replace hL0 := hL0.trans hlew142
                                                                          replace k2 := k2.up V133.up
                                                                          replace k12 := k12.up V133.up
                                                                          replace k22 := k22.up V133.up
                                                                          replace kS := kS.up V133.up
                                                                          replace U := U.tr V133.up
                                                                          replace G := G.tr V133
                                                                          replace hF := V133.fz
                                                                          have k134 := kn134
                                                                          refine hK132 _ _ ?_
                                                                          refine c_seq (fun K143 hK143 => ?_)
                                                                          refine c_seq (fun K144 hK144 => ?_)
                                                                          exact (by
                                                                            refine c_region ?_
                                                                            refine l_step (y_fld fld_41_2 (et (gS rfl (gS rfl (gS rfl g0))) rfl)) ?_
                                                                            refine l_step (y_load1 one_4 (et g0 rfl) (at1 (k2.cell (rT3 0 _ rfl)))) ?_
                                                                            refine l_step (y_not (et g0 rfl)) ?_
                                                                            refine l_nil ?_
                                                                            refine hK144 _ _ ?_
                                                                            refine fg5 3 5 8 17 229 (gS rfl (gS rfl (gS rfl (gS rfl (gS rfl (gS rfl g0)))))) (gS rfl (gS rfl (gS rfl (gS rfl (gS rfl g0))))) (gS rfl (gS rfl (gS rfl (gS rfl g0)))) (gS rfl (gS rfl (gS rfl g0))) g0 (fun g => ?_)
                                                                            refine c_true (et g0 rfl) (by (rw [hcr]; rfl)) ?_
                                                                            refine c_seq (fun K146 hK146 => ?_)
                                                                            exact (by
                                                                              refine c_region ?_
                                                                              refine l_step (y_loadB agg_25 sz_25 (et (gS rfl (gS rfl g0)) rfl) (by rw [List.size_toArray, length_bL, length_be]) (at1B k22)) ?_
                                                                              refine l_eff (e_callV cal_53 (aC (et g0 rfl) aN) (yp_nativeAt _ _ tok.to)) (fun v147 w147 h147 => ?_)
                                                                              obtain ⟨rfl, u147⟩ := h147
                                                                              replace G := G.tr (Go.ofUp hF u147)
                                                                              replace hF := hF.up u147
                                                                              replace k2 := k2.up u147
                                                                              replace k12 := k12.up u147
                                                                              replace k22 := k22.up u147
                                                                              replace k134 := k134.up u147
                                                                              replace kS := kS.up u147
                                                                              replace U := U.tr u147
                                                                              refine l_step (y_fld fld_146_1 (et (gS rfl (gS rfl (gS rfl g0))) rfl)) ?_
                                                                              refine l_effN (e_store sz_5 (et g0 rfl) (cellsV (et (gS rfl g0) rfl) rfl) rfl (by first | exact one_bL _ | exact one_uL _ | (intro v hv; simp at hv; subst hv; rfl)) k134 (by (rw [List.size_toArray, bfr_len]; decide))) (fun v148 w148 h148 => ?_)
                                                                              obtain ⟨rfl, x148⟩ := h148
                                                                              replace k2 := k2.ch x148.ch (by omega)
                                                                              replace k12 := k12.ch x148.ch (by omega)
                                                                              replace k22 := k22.ch x148.ch (by omega)
                                                                              replace kS := kS.ch x148.ch (by first | omega | (first | omega | exact hOo.ne (by omega)))
                                                                              replace k134 := x148.blk
                                                                              replace G := G.wr x148 (by first | exact .inr f134 | omega | (simp; omega)) nb134
                                                                              replace hF := G.fz
                                                                              replace U := U.st x148 (.inr f134)
                                                                              have h17 := k134
                                                                              replace k134 : Blk w148 b134 (bfr 0 (natAt T.to) (.slice sa40 sn40 sc40) vv9 (.slice none 0 0) (.slice none 0 0) T.to T.frm).toArray := by
                                                                                rw [← bfr_nt (n := 0) (q := natAt T.to)]
                                                                                exact h17
                                                                              refine l_nil ?_
                                                                              refine hK146 _ _ ?_
                                                                              refine fg4 3 5 8 17 (gS rfl (gS rfl (gS rfl (gS rfl (gS rfl (gS rfl (gS rfl g0))))))) (gS rfl (gS rfl (gS rfl (gS rfl (gS rfl (gS rfl g0)))))) (gS rfl (gS rfl (gS rfl (gS rfl (gS rfl g0))))) (gS rfl (gS rfl (gS rfl (gS rfl g0)))) (fun g => ?_)
                                                                              refine c_seq (fun K149 hK149 => ?_)
                                                                              refine c_seq (fun K150 hK150 => ?_)
                                                                              exact (by
                                                                                refine c_region ?_
                                                                                refine l_step (y_fld fld_146_1 (et g0 rfl)) ?_
                                                                                refine l_step (y_load1 one_5 (et g0 rfl) (at1 (k134.cell (show _ = some (Value.int .u8 (natAt T.to : Nat)) from rfl)))) ?_
                                                                                refine l_step (y_eql (et g0 rfl) rfl) ?_
                                                                                refine l_nil ?_
                                                                                refine hK150 _ _ ?_
                                                                                refine fg5 3 5 8 17 235 (gS rfl (gS rfl (gS rfl (gS rfl (gS rfl (gS rfl g0)))))) (gS rfl (gS rfl (gS rfl (gS rfl (gS rfl g0))))) (gS rfl (gS rfl (gS rfl (gS rfl g0)))) (gS rfl (gS rfl (gS rfl g0))) g0 (fun g => ?_)
                                                                                refine c_cond (et g0 rfl) (fun cB8 => ?_) (fun cB8 => ?_)
                                                                                · skip
                                                                                  
                                                                                  have hnt : natAt T.to = 0 := by have := of_decide_eq_true cB8; omega
                                                                                  exact (by
                                                                                    refine c_draw Up 8 [(0, true), (1, true), (2, true), (3, true), (4, false), (5, true), (6, false), (7, true), (8, false)] (by kernel_rfl) (fun w152 hu => ⟨Up.refl _, ?_⟩)
                                                                                    replace G := G.tr (Go.ofUp hF hu)
                                                                                    replace hF := hF.up hu
                                                                                    replace k2 := k2.up hu
                                                                                    replace k12 := k12.up hu
                                                                                    replace k22 := k22.up hu
                                                                                    replace k134 := k134.up hu
                                                                                    replace kS := kS.up hu
                                                                                    replace U := U.tr hu
                                                                                    have SU := Up.refl w152
                                                                                    refine p_step (by exact rfl) (y_moveV (et (gS rfl (gS rfl (gS rfl g0))) rfl)) ?_
                                                                                    refine p_step (by exact rfl) (y_nil (et g0 rfl)) ?_
                                                                                    refine p_step (by exact rfl) (y_fld fld_102_0 (et g0 rfl)) ?_
                                                                                    refine p_step (by exact rfl) (y_loadB agg_25 sz_25 (et (gS rfl (gS rfl (gS rfl (gS rfl (gS rfl g0))))) rfl) (by rw [List.size_toArray, length_bL, length_be]) (atSB k22)) ?_
                                                                                    refine p_eff (by exact rfl) (e_callV cal_43 (aC (et (gS rfl g0) rfl) (aC (et g0 rfl) aN)) (yp_account _ _ _ _ _ _ _ _ _ hF kS (rS 0 _ rfl) lv87 tok.to (by have h9 : (bA2 s T).length ≤ (bA1 s T).length + 1 := putA_len _ _; have h8 : (bA1 s T).length ≤ s.now.accts.length + 1 := putA_len _ _; exact Nat.lt_of_le_of_lt h9 (by omega)))) (fun v153 w153 h153 => ?_)
                                                                                    obtain ⟨c153, rfl, p153, u153⟩ := h153
                                                                                    replace G := G.tr (Go.ofUp hF u153)
                                                                                    replace hF := hF.up u153
                                                                                    replace k2 := k2.up u153
                                                                                    replace k12 := k12.up u153
                                                                                    replace k22 := k22.up u153
                                                                                    replace k134 := k134.up u153
                                                                                    replace kS := kS.up u153
                                                                                    replace U := U.tr u153
                                                                                    replace p153 : PA _ _ _ := ⟨p153⟩
                                                                                    refine ⟨.inr (SU.tr u153), ?_⟩
                                                                                    replace SU := SU.tr u153
                                                                                    obtain ⟨vn9, vb9, vc9, vs9, hc9, hn9, hb9, hcd9, hb19, hb29⟩ := acct_form p153.p
                                                                                    rw [hc9]
                                                                                    refine p_step (by exact rfl) (y_fldV (f := 3) Hvaa.underlying107 rfl rfl rfl one_38 (et g0 rfl) ((app20 (i := 2) rfl).trans rfl)) ?_
                                                                                    refine p_eff (by exact rfl) (e_callV cal_26 (aC (et g0 rfl) aN) (yp_bytes hF hcd9 (by have h9 := hcl9 T.to; rw [show (bW s T).accts = bA2 s T from list_accts _ _] at h9; exact Nat.le_trans (Nat.le_of_lt h9) (by decide)))) (fun v154 w154 h154 => ?_)
                                                                                    obtain ⟨H154, g154, b154⟩ := h154
                                                                                    have hlew154 := g154.le
                                                                                    replace nb2 := g154.nb nb2 k2.lt
                                                                                    replace nb12 := g154.nb nb12 k12.lt
                                                                                    replace nb22 := g154.nb nb22 k22.lt
                                                                                    replace nb134 := g154.nb nb134 k134.lt
                                                                                    replace nbS := g154.nb nbS kS.lt
                                                                                    replace pa10 := pa10.mono hlew154
                                                                                    replace n34 := n34.mono hlew154
                                                                                    replace n38 := n38.mono hlew154
                                                                                    replace n39 := n39.mono hlew154
                                                                                    replace hsP := hsP.mono hlew154
                                                                                    replace n42 := n42.mono hlew154
                                                                                    replace lvz76 := lvz76.mono hlew154
                                                                                    replace hnn79 := hnn79.mono hlew154
                                                                                    replace hbb79 := hbb79.mono hlew154
                                                                                    replace hcd79 := hcd79.mono hlew154
                                                                                    replace hss79 := hss79.mono hlew154
                                                                                    replace n80 := n80.mono hlew154
                                                                                    replace n81 := n81.mono hlew154
                                                                                    replace lv82 := lv82.mono hlew154
                                                                                    replace n85 := n85.mono hlew154
                                                                                    replace n86 := n86.mono hlew154
                                                                                    replace lv87 := lv87.mono hlew154
                                                                                    replace lv90 := lv90.mono hlew154
                                                                                    replace lv93 := lv93.mono hlew154
                                                                                    replace lv96 := lv96.mono hlew154
                                                                                    replace lv98 := lv98.mono hlew154
                                                                                    replace lv100 := lv100.mono hlew154
                                                                                    replace hA1 := hA1.mono hlew154
                                                                                    replace hS1 := hS1.mono hlew154
                                                                                    replace hvv9 := hvv9.mono hlew154
                                                                                    replace p153 := p153.mono hlew154
                                                                                    replace hL0 := hL0.trans hlew154
                                                                                    replace k2 := k2.up g154.up
                                                                                    replace k12 := k12.up g154.up
                                                                                    replace k22 := k22.up g154.up
                                                                                    replace k134 := k134.up g154.up
                                                                                    replace kS := kS.up g154.up
                                                                                    replace U := U.tr g154.up
                                                                                    replace G := G.tr g154
                                                                                    replace hF := g154.fz
                                                                                    obtain ⟨ca9, cc9, rfl⟩ := b154.sl
                                                                                    refine ⟨.inr (SU.tr g154.up), ?_⟩
                                                                                    replace SU := SU.tr g154.up
                                                                                    exact (by
                                                                                      refine p_step (by exact rfl) (y_fld fld_146_10 (et (gS rfl (gS rfl (gS rfl (gS rfl (gS rfl (gS rfl (gS rfl (gS rfl g0)))))))) rfl)) ?_
                                                                                      refine p_effN (by exact rfl) (e_store sz_38 (et g0 rfl) (cellsV (et (gS rfl g0) rfl) rfl) rfl (by first | exact one_bL _ | exact one_uL _ | (intro v hv; simp at hv; subst hv; rfl)) k134 (by (rw [List.size_toArray, bfr_len]; decide))) (fun v155 w155 h155 => ?_)
                                                                                      obtain ⟨rfl, x155⟩ := h155
                                                                                      replace k2 := k2.ch x155.ch (by omega)
                                                                                      replace k12 := k12.ch x155.ch (by omega)
                                                                                      replace k22 := k22.ch x155.ch (by omega)
                                                                                      replace kS := kS.ch x155.ch (by first | omega | (first | omega | exact hOo.ne (by omega)))
                                                                                      replace k134 := x155.blk
                                                                                      replace G := G.wr x155 (by first | exact .inr f134 | omega | (simp; omega)) nb134
                                                                                      replace hF := G.fz
                                                                                      replace U := U.st x155 (.inr f134)
                                                                                      refine ⟨.inl rfl, ?_⟩
                                                                                      have h17 := k134
                                                                                      replace k134 : Blk w155 b134 (bfr 0 (natAt T.to) (.slice sa40 sn40 sc40) vv9 (.slice ca9 (acctAt (bA2 s T) T.to).code.length cc9) (.slice none 0 0) T.to T.frm).toArray := by
                                                                                        rw [← bfr_co (cv := (.slice none 0 0))]
                                                                                        exact h17
                                                                                      refine p_nil ?_
                                                                                      refine hK149 _ _ ?_
                                                                                      refine fg3 3 5 17 (gS rfl (gS rfl (gS rfl (gS rfl (gS rfl (gS rfl (gS rfl (gS rfl (gS rfl (gS rfl (gS rfl (gS rfl g0)))))))))))) (gS rfl (gS rfl (gS rfl (gS rfl (gS rfl (gS rfl (gS rfl (gS rfl (gS rfl (gS rfl (gS rfl g0))))))))))) (gS rfl (gS rfl (gS rfl (gS rfl (gS rfl (gS rfl (gS rfl (gS rfl (gS rfl g0))))))))) (fun g => ?_)
                                                                                      refine c_region ?_
                                                                                      refine l_step (y_fld fld_41_7 (et (gS rfl (gS rfl g0)) rfl)) ?_
                                                                                      refine l_step (y_load1 one_38 (et g0 rfl) (at1 (k2.cell (rT6 0 _ rfl)))) ?_
                                                                                      refine l_eff (e_callV cal_26 (aC (et g0 rfl) aN) (yp_bytes hF (hTd.mono hL0) (by omega))) (fun v156 w156 h156 => ?_)
                                                                                      obtain ⟨H156, g156, b156⟩ := h156
                                                                                      have hlew156 := g156.le
                                                                                      replace nb2 := g156.nb nb2 k2.lt
                                                                                      replace nb12 := g156.nb nb12 k12.lt
                                                                                      replace nb22 := g156.nb nb22 k22.lt
                                                                                      replace nb134 := g156.nb nb134 k134.lt
                                                                                      replace nbS := g156.nb nbS kS.lt
                                                                                      replace pa10 := pa10.mono hlew156
                                                                                      replace n34 := n34.mono hlew156
                                                                                      replace n38 := n38.mono hlew156
                                                                                      replace n39 := n39.mono hlew156
                                                                                      replace hsP := hsP.mono hlew156
                                                                                      replace n42 := n42.mono hlew156
                                                                                      replace lvz76 := lvz76.mono hlew156
                                                                                      replace hnn79 := hnn79.mono hlew156
                                                                                      replace hbb79 := hbb79.mono hlew156
                                                                                      replace hcd79 := hcd79.mono hlew156
                                                                                      replace hss79 := hss79.mono hlew156
                                                                                      replace n80 := n80.mono hlew156
                                                                                      replace n81 := n81.mono hlew156
                                                                                      replace lv82 := lv82.mono hlew156
                                                                                      replace n85 := n85.mono hlew156
                                                                                      replace n86 := n86.mono hlew156
                                                                                      replace lv87 := lv87.mono hlew156
                                                                                      replace lv90 := lv90.mono hlew156
                                                                                      replace lv93 := lv93.mono hlew156
                                                                                      replace lv96 := lv96.mono hlew156
                                                                                      replace lv98 := lv98.mono hlew156
                                                                                      replace lv100 := lv100.mono hlew156
                                                                                      replace hA1 := hA1.mono hlew156
                                                                                      replace hS1 := hS1.mono hlew156
                                                                                      replace hvv9 := hvv9.mono hlew156
                                                                                      replace p153 := p153.mono hlew156
                                                                                      replace b154 := b154.mono hlew156
                                                                                      replace hL0 := hL0.trans hlew156
                                                                                      replace k2 := k2.up g156.up
                                                                                      replace k12 := k12.up g156.up
                                                                                      replace k22 := k22.up g156.up
                                                                                      replace k134 := k134.up g156.up
                                                                                      replace kS := kS.up g156.up
                                                                                      replace U := U.tr g156.up
                                                                                      replace G := G.tr g156
                                                                                      replace hF := g156.fz
                                                                                      obtain ⟨ia9, ic9, rfl⟩ := b156.sl
                                                                                      exact (by
                                                                                        refine l_step (y_fld fld_146_11 (et (gS rfl (gS rfl (gS rfl g0))) rfl)) ?_
                                                                                        refine l_effN (e_store sz_38 (et g0 rfl) (cellsV (et (gS rfl g0) rfl) rfl) rfl (by first | exact one_bL _ | exact one_uL _ | (intro v hv; simp at hv; subst hv; rfl)) k134 (by (rw [List.size_toArray, bfr_len]; decide))) (fun v157 w157 h157 => ?_)
                                                                                        obtain ⟨rfl, x157⟩ := h157
                                                                                        replace k2 := k2.ch x157.ch (by omega)
                                                                                        replace k12 := k12.ch x157.ch (by omega)
                                                                                        replace k22 := k22.ch x157.ch (by omega)
                                                                                        replace kS := kS.ch x157.ch (by first | omega | (first | omega | exact hOo.ne (by omega)))
                                                                                        replace k134 := x157.blk
                                                                                        replace G := G.wr x157 (by first | exact .inr f134 | omega | (simp; omega)) nb134
                                                                                        replace hF := G.fz
                                                                                        replace U := U.st x157 (.inr f134)
                                                                                        have h17 := k134
                                                                                        replace k134 : Blk w157 b134 (bfr 0 (natAt T.to) (.slice sa40 sn40 sc40) vv9 (.slice ca9 (acctAt (bA2 s T) T.to).code.length cc9) (.slice ia9 T.data.length ic9) T.to T.frm).toArray := by
                                                                                          rw [← bfr_in (iv := (.slice none 0 0))]
                                                                                          exact h17
                                                                                        refine l_nil ?_
                                                                                        refine hK143 _ _ ?_
                                                                                        refine fg2 5 17 (gS rfl (gS rfl (gS rfl (gS rfl (gS rfl g0))))) (gS rfl (gS rfl (gS rfl (gS rfl g0)))) (fun g => ?_)
                                                                                        refine c_seq (fun K158 hK158 => ?_)
                                                                                        exact (by
                                                                                          refine c_region ?_
                                                                                          refine l_step (y_moveV (et (gS rfl g0) rfl)) ?_
                                                                                          refine l_step (y_nil (et g0 rfl)) ?_
                                                                                          refine l_step (y_fld fld_102_4 (et g0 rfl)) ?_
                                                                                          have rl159 := RowIn.le rS (Nat.succ_pos _)
                                                                                          simp only [List.length_cons, List.length_nil, Nat.zero_add, Nat.reduceAdd] at rl159
                                                                                          refine l_effN (e_store sz_5 (et g0 rfl) (cellsV rfl rfl) rfl (by first | exact one_bL _ | exact one_uL _ | (intro v hv; simp at hv; subst hv; rfl)) kS (by first | exact Nat.le_trans (by omega) rl159 | exact Nat.le_of_ble_eq_true rfl | (simp; done) | (simp; omega) | omega | (simp only [size_spl, Array.size_setIfInBounds, hs.size]; exact Nat.le_of_ble_eq_true rfl))) (fun v159 w159 h159 => ?_)
                                                                                          obtain ⟨rfl, x159⟩ := h159
                                                                                          replace k2 := k2.ch x159.ch (by omega)
                                                                                          replace k12 := k12.ch x159.ch (by omega)
                                                                                          replace k22 := k22.ch x159.ch (by omega)
                                                                                          replace k134 := k134.ch x159.ch (by omega)
                                                                                          replace kS := x159.blk
                                                                                          replace G := G.wr x159 (.inl (by first | rfl | (simp; done))) nbS
                                                                                          replace hF := G.fz
                                                                                          replace U := U.st x159 (.inl (by first | rfl | (simp; done)))
                                                                                          replace eC := kS.eput eC (by omega)
                                                                                          replace rS : RowIn _ _ [_, .slice wa9 (bW s T).warmA.length wc9, .slice ws9 (bW s T).warmS.length wd9, vr, .slice la s.now.logs.length lc, .slice ta s.now.temps.length tc, .slice ma s.now.made.length mc, .slice ga s.now.gone.length gc, .slice sta (startL s.now.accts).length stc, .slice none 0 0, .slice none 0 0, .int .u8 ((1 : Nat) : Int), .int .u8 (s.status : Nat), .int .u8 ((s.applied + 1 : Nat) : Int), .slice sa35 sn35 sc35, .slice sa40 sn40 sc40, vleft, .slice sa43 sn43 sc43, vtot] := kS.rput rS 11 rfl
                                                                                          replace rOr := kS.rputo rOr (by first | (left; omega) | (right; simp only [List.length_cons, List.length_nil, length_bL, length_be]; omega))
                                                                                          replace rMd := kS.rputo rMd (by first | (left; omega) | (right; simp only [List.length_cons, List.length_nil, length_bL, length_be]; omega))
                                                                                          replace rE1 := kS.rputo rE1 (by first | (left; omega) | (right; simp only [List.length_cons, List.length_nil, length_bL, length_be]; omega))
                                                                                          replace rE2 := kS.rputo rE2 (by first | (left; omega) | (right; simp only [List.length_cons, List.length_nil, length_bL, length_be]; omega))
                                                                                          replace rE3 := kS.rputo rE3 (by first | (left; omega) | (right; simp only [List.length_cons, List.length_nil, length_bL, length_be]; omega))
                                                                                          replace rE4 := kS.rputo rE4 (by first | (left; omega) | (right; simp only [List.length_cons, List.length_nil, length_bL, length_be]; omega))
                                                                                          replace rE5 := kS.rputo rE5 (by first | (left; omega) | (right; simp only [List.length_cons, List.length_nil, length_bL, length_be]; omega))
                                                                                          replace rE6 := kS.rputo rE6 (by first | (left; omega) | (right; simp only [List.length_cons, List.length_nil, length_bL, length_be]; omega))
                                                                                          refine l_nil ?_
                                                                                          refine hK158 _ _ ?_
                                                                                          refine fg2 5 17 (gS rfl (gS rfl (gS rfl (gS rfl g0)))) (gS rfl (gS rfl (gS rfl g0))) (fun g => ?_)
                                                                                          refine c_seq (fun K160 hK160 => ?_)
                                                                                          exact (by
                                                                                            refine c_region ?_
                                                                                            refine l_step (y_moveV (et (gS rfl g0) rfl)) ?_
                                                                                            have hsE0 : SC H156 _ { s with now := { s.now with accts := bA2 s T, warmA := (bW s T).warmA, warmS := (bW s T).warmS }, start := startL s.now.accts, frames := [], ret := [], applied := s.applied + 1, limit := T.gas, txGas := T.gas - intrN T, price := priceN s T, origin := T.frm, made := 0, phase := 1 } (.slice none 0 0) := ⟨⟨by show (bA2 s T).length < _; have h9 : (bA2 s T).length ≤ (bA1 s T).length + 1 := putA_len _ _; have h8 : (bA1 s T).length ≤ s.now.accts.length + 1 := putA_len _ _; omega, by show (bW s T).warmA.length < _; have h9 : (bW s T).warmA.length ≤ _ := hlA; omega, by show (bW s T).warmS.length < _; have h9 : (bW s T).warmS.length ≤ _ := hlS; omega, so.refund, so.logs, so.temps, so.made, so.gone, by show (startL s.now.accts).length < _; omega, (by show 0 < 16777216; decide), (by show 1 < 256; decide), so.status, by show s.applied + 1 < 256; omega, tok.gas, by show T.gas - intrN T < _; omega, so.left, (Nat.lt_of_le_of_lt (price_le vd).1 (feeM_lt tok)), so.total, tok.frm, (by show 0 < A160; decide)⟩, eC.mono hL0, (by simp only [size_spl, Array.size_setIfInBounds]; exact hszC), _, _, _, _, _, _, _, _, _, _, _, _, _, _, _, _, _, _, _, _, _, _, _, _, rS, rOr, rMd, lv87, hA1, hS1, (hRf.mono hL0), (hTm.mono hL0), (hMd.mono hL0), (hGn.mono hL0), lvz76, (BV.nil _), n34, n39, (hLf.mono hL0), n42, (hTt.mono hL0)⟩
                                                                                            have hsEe : ({ bS s T with phase := 1 } : YSt) = { s with now := { s.now with accts := bA2 s T, warmA := (bW s T).warmA, warmS := (bW s T).warmS }, start := startL s.now.accts, frames := [], ret := [], applied := s.applied + 1, limit := T.gas, txGas := T.gas - intrN T, price := priceN s T, origin := T.frm, made := 0, phase := 1 } := by
                                                                                              unfold bS
                                                                                              rw [if_neg (show ¬ T.create = true by rw [hcr]; exact Bool.false_ne_true)]
                                                                                              exact congrArg (fun W : YWorld => ({ s with now := W, start := startL s.now.accts, frames := [], ret := [], applied := s.applied + 1, limit := T.gas, txGas := T.gas - intrN T, price := priceN s T, origin := T.frm, made := 0, phase := 1 } : YSt)) (bW_eq s T)
                                                                                            have hsE := hsE0
                                                                                            rw [← hsEe] at hsE
                                                                                            have hfN : FC H156 _ 0 (cFr 0 false T.value T.to T.frm (T.gas - intrN T) (natAt T.to) (acctAt (bA2 s T) T.to).code T.data) (.slice none 0 0) := (bfr_fc (by decide) (by unfold natAt; split <;> omega) n39 hvv9 b154 b156 (by omega) tok.value tok.to tok.frm (by have h9 := hcl9 T.to; rw [show (bW s T).accts = bA2 s T from list_accts _ _] at h9; exact h9) (by omega))
                                                                                            have ebf : bF s T = (cFr 0 false T.value T.to T.frm (T.gas - intrN T) (natAt T.to) (acctAt (bA2 s T) T.to).code T.data) := by unfold bF; rw [if_neg (by rw [hcr]; exact Bool.false_ne_true), hTg, if_pos hnt, show (bW s T).accts = bA2 s T from list_accts _ _]
                                                                                            have hym : YM w159 H156 bs { bS s T with phase := 1 } (fun b => b = bs ∨ w.heap.size ≤ b) 0 := ym_rest hF kS hsE rfl hlg9 ((rS 4 _ rfl).trans (congrArg some hla9)) nbS (.inl rfl)
                                                                                            refine l_step (y_loadB agg_146 sz_146 (et (gS rfl g0) rfl) (by rw [List.size_toArray, bfr_len]) (at1B k134)) ?_
                                                                                            have hU9 := U.size
                                                                                            refine l_eff (e_callV cal_55 (aC (et (gS rfl g0) rfl) (aC (et g0 rfl) aN)) (yp_enterY hym (by show 0 < 60000; decide) bfr_len hfN rfl (ebf ▸ hen9))) (fun v161 w161 h161 => ?_)
                                                                                            obtain ⟨rfl, H161, bf161, g161, ym161⟩ := h161
                                                                                            replace G := G.trans g161 (by intro b hb; first | omega | exact .inl hb | (simp at hb ⊢; omega))
                                                                                            replace U := U.cc g161.ch (by intro b hb; first | omega | exact .inl hb | (simp at hb ⊢; omega))
                                                                                            refine l_nil ?_
                                                                                            refine hK160 _ _ ?_
                                                                                            refine fg0 (fun g => ?_)
                                                                                            refine c_seq (fun K162 hK162 => ?_)
                                                                                            exact (by
                                                                                              refine c_region ?_
                                                                                              refine l_step y_assignC ?_
                                                                                              refine l_nil ?_
                                                                                              refine hK162 _ _ ?_
                                                                                              refine c_ret ?_
                                                                                              repeat with_reducible refine then_ret ?_
                                                                                              refine ret1 rfl (res_tmp (et g0 rfl)) ?_
                                                                                              have ebY : begY s T = entY { bS s T with phase := 1 } (cFr 0 false T.value T.to T.frm (T.gas - intrN T) (natAt T.to) (acctAt (bA2 s T) T.to).code T.data) := by unfold begY; rw [if_neg (fun h9 => by have h8 := h9.1; rw [hcr] at h8; cases h8), ebf]
                                                                                              rw [ebY]
                                                                                              exact ⟨rfl, _, _, G, ym161.wk (fun b hb => hb.elim id (fun h9 => .inr (Nat.le_trans hU9 h9)))⟩))))))
                                                                                · skip
                                                                                  
                                                                                  have hnt : ¬ natAt T.to = 0 := by have := of_decide_eq_false cB8; omega
                                                                                  refine c_skip ?_
                                                                                  refine hK149 _ _ ?_
                                                                                  refine fg3 3 5 17 (gS rfl (gS rfl (gS rfl (gS rfl g0)))) (gS rfl (gS rfl (gS rfl g0))) (gS rfl g0) (fun g => ?_)
                                                                                  refine c_region ?_
                                                                                  refine l_step (y_fld fld_41_7 (et (gS rfl (gS rfl g0)) rfl)) ?_
                                                                                  refine l_step (y_load1 one_38 (et g0 rfl) (at1 (k2.cell (rT6 0 _ rfl)))) ?_
                                                                                  refine l_eff (e_callV cal_26 (aC (et g0 rfl) aN) (yp_bytes hF (hTd.mono hL0) (by omega))) (fun v163 w163 h163 => ?_)
                                                                                  obtain ⟨H163, g163, b163⟩ := h163
                                                                                  have hlew163 := g163.le
                                                                                  replace nb2 := g163.nb nb2 k2.lt
                                                                                  replace nb12 := g163.nb nb12 k12.lt
                                                                                  replace nb22 := g163.nb nb22 k22.lt
                                                                                  replace nb134 := g163.nb nb134 k134.lt
                                                                                  replace nbS := g163.nb nbS kS.lt
                                                                                  replace pa10 := pa10.mono hlew163
                                                                                  replace n34 := n34.mono hlew163
                                                                                  replace n38 := n38.mono hlew163
                                                                                  replace n39 := n39.mono hlew163
                                                                                  replace hsP := hsP.mono hlew163
                                                                                  replace n42 := n42.mono hlew163
                                                                                  replace lvz76 := lvz76.mono hlew163
                                                                                  replace hnn79 := hnn79.mono hlew163
                                                                                  replace hbb79 := hbb79.mono hlew163
                                                                                  replace hcd79 := hcd79.mono hlew163
                                                                                  replace hss79 := hss79.mono hlew163
                                                                                  replace n80 := n80.mono hlew163
                                                                                  replace n81 := n81.mono hlew163
                                                                                  replace lv82 := lv82.mono hlew163
                                                                                  replace n85 := n85.mono hlew163
                                                                                  replace n86 := n86.mono hlew163
                                                                                  replace lv87 := lv87.mono hlew163
                                                                                  replace lv90 := lv90.mono hlew163
                                                                                  replace lv93 := lv93.mono hlew163
                                                                                  replace lv96 := lv96.mono hlew163
                                                                                  replace lv98 := lv98.mono hlew163
                                                                                  replace lv100 := lv100.mono hlew163
                                                                                  replace hA1 := hA1.mono hlew163
                                                                                  replace hS1 := hS1.mono hlew163
                                                                                  replace hvv9 := hvv9.mono hlew163
                                                                                  replace hL0 := hL0.trans hlew163
                                                                                  replace k2 := k2.up g163.up
                                                                                  replace k12 := k12.up g163.up
                                                                                  replace k22 := k22.up g163.up
                                                                                  replace k134 := k134.up g163.up
                                                                                  replace kS := kS.up g163.up
                                                                                  replace U := U.tr g163.up
                                                                                  replace G := G.tr g163
                                                                                  replace hF := g163.fz
                                                                                  obtain ⟨ia9, ic9, rfl⟩ := b163.sl
                                                                                  exact (by
                                                                                    refine l_step (y_fld fld_146_11 (et (gS rfl (gS rfl (gS rfl g0))) rfl)) ?_
                                                                                    refine l_effN (e_store sz_38 (et g0 rfl) (cellsV (et (gS rfl g0) rfl) rfl) rfl (by first | exact one_bL _ | exact one_uL _ | (intro v hv; simp at hv; subst hv; rfl)) k134 (by (rw [List.size_toArray, bfr_len]; decide))) (fun v164 w164 h164 => ?_)
                                                                                    obtain ⟨rfl, x164⟩ := h164
                                                                                    replace k2 := k2.ch x164.ch (by omega)
                                                                                    replace k12 := k12.ch x164.ch (by omega)
                                                                                    replace k22 := k22.ch x164.ch (by omega)
                                                                                    replace kS := kS.ch x164.ch (by first | omega | (first | omega | exact hOo.ne (by omega)))
                                                                                    replace k134 := x164.blk
                                                                                    replace G := G.wr x164 (by first | exact .inr f134 | omega | (simp; omega)) nb134
                                                                                    replace hF := G.fz
                                                                                    replace U := U.st x164 (.inr f134)
                                                                                    have h17 := k134
                                                                                    replace k134 : Blk w164 b134 (bfr 0 (natAt T.to) (.slice sa40 sn40 sc40) vv9 (.slice none 0 0) (.slice ia9 T.data.length ic9) T.to T.frm).toArray := by
                                                                                      rw [← bfr_in (iv := (.slice none 0 0))]
                                                                                      exact h17
                                                                                    refine l_nil ?_
                                                                                    refine hK143 _ _ ?_
                                                                                    refine fg2 5 17 (gS rfl (gS rfl (gS rfl (gS rfl (gS rfl g0))))) (gS rfl (gS rfl (gS rfl (gS rfl g0)))) (fun g => ?_)
                                                                                    refine c_seq (fun K165 hK165 => ?_)
                                                                                    exact (by
                                                                                      refine c_region ?_
                                                                                      refine l_step (y_moveV (et (gS rfl g0) rfl)) ?_
                                                                                      refine l_step (y_nil (et g0 rfl)) ?_
                                                                                      refine l_step (y_fld fld_102_4 (et g0 rfl)) ?_
                                                                                      have rl166 := RowIn.le rS (Nat.succ_pos _)
                                                                                      simp only [List.length_cons, List.length_nil, Nat.zero_add, Nat.reduceAdd] at rl166
                                                                                      refine l_effN (e_store sz_5 (et g0 rfl) (cellsV rfl rfl) rfl (by first | exact one_bL _ | exact one_uL _ | (intro v hv; simp at hv; subst hv; rfl)) kS (by first | exact Nat.le_trans (by omega) rl166 | exact Nat.le_of_ble_eq_true rfl | (simp; done) | (simp; omega) | omega | (simp only [size_spl, Array.size_setIfInBounds, hs.size]; exact Nat.le_of_ble_eq_true rfl))) (fun v166 w166 h166 => ?_)
                                                                                      obtain ⟨rfl, x166⟩ := h166
                                                                                      replace k2 := k2.ch x166.ch (by omega)
                                                                                      replace k12 := k12.ch x166.ch (by omega)
                                                                                      replace k22 := k22.ch x166.ch (by omega)
                                                                                      replace k134 := k134.ch x166.ch (by omega)
                                                                                      replace kS := x166.blk
                                                                                      replace G := G.wr x166 (.inl (by first | rfl | (simp; done))) nbS
                                                                                      replace hF := G.fz
                                                                                      replace U := U.st x166 (.inl (by first | rfl | (simp; done)))
                                                                                      replace eC := kS.eput eC (by omega)
                                                                                      replace rS : RowIn _ _ [_, .slice wa9 (bW s T).warmA.length wc9, .slice ws9 (bW s T).warmS.length wd9, vr, .slice la s.now.logs.length lc, .slice ta s.now.temps.length tc, .slice ma s.now.made.length mc, .slice ga s.now.gone.length gc, .slice sta (startL s.now.accts).length stc, .slice none 0 0, .slice none 0 0, .int .u8 ((1 : Nat) : Int), .int .u8 (s.status : Nat), .int .u8 ((s.applied + 1 : Nat) : Int), .slice sa35 sn35 sc35, .slice sa40 sn40 sc40, vleft, .slice sa43 sn43 sc43, vtot] := kS.rput rS 11 rfl
                                                                                      replace rOr := kS.rputo rOr (by first | (left; omega) | (right; simp only [List.length_cons, List.length_nil, length_bL, length_be]; omega))
                                                                                      replace rMd := kS.rputo rMd (by first | (left; omega) | (right; simp only [List.length_cons, List.length_nil, length_bL, length_be]; omega))
                                                                                      replace rE1 := kS.rputo rE1 (by first | (left; omega) | (right; simp only [List.length_cons, List.length_nil, length_bL, length_be]; omega))
                                                                                      replace rE2 := kS.rputo rE2 (by first | (left; omega) | (right; simp only [List.length_cons, List.length_nil, length_bL, length_be]; omega))
                                                                                      replace rE3 := kS.rputo rE3 (by first | (left; omega) | (right; simp only [List.length_cons, List.length_nil, length_bL, length_be]; omega))
                                                                                      replace rE4 := kS.rputo rE4 (by first | (left; omega) | (right; simp only [List.length_cons, List.length_nil, length_bL, length_be]; omega))
                                                                                      replace rE5 := kS.rputo rE5 (by first | (left; omega) | (right; simp only [List.length_cons, List.length_nil, length_bL, length_be]; omega))
                                                                                      replace rE6 := kS.rputo rE6 (by first | (left; omega) | (right; simp only [List.length_cons, List.length_nil, length_bL, length_be]; omega))
                                                                                      refine l_nil ?_
                                                                                      refine hK165 _ _ ?_
                                                                                      refine fg2 5 17 (gS rfl (gS rfl (gS rfl (gS rfl g0)))) (gS rfl (gS rfl (gS rfl g0))) (fun g => ?_)
                                                                                      refine c_seq (fun K167 hK167 => ?_)
                                                                                      exact (by
                                                                                        refine c_region ?_
                                                                                        refine l_step (y_moveV (et (gS rfl g0) rfl)) ?_
                                                                                        have hsE0 : SC H163 _ { s with now := { s.now with accts := bA2 s T, warmA := (bW s T).warmA, warmS := (bW s T).warmS }, start := startL s.now.accts, frames := [], ret := [], applied := s.applied + 1, limit := T.gas, txGas := T.gas - intrN T, price := priceN s T, origin := T.frm, made := 0, phase := 1 } (.slice none 0 0) := ⟨⟨by show (bA2 s T).length < _; have h9 : (bA2 s T).length ≤ (bA1 s T).length + 1 := putA_len _ _; have h8 : (bA1 s T).length ≤ s.now.accts.length + 1 := putA_len _ _; omega, by show (bW s T).warmA.length < _; have h9 : (bW s T).warmA.length ≤ _ := hlA; omega, by show (bW s T).warmS.length < _; have h9 : (bW s T).warmS.length ≤ _ := hlS; omega, so.refund, so.logs, so.temps, so.made, so.gone, by show (startL s.now.accts).length < _; omega, (by show 0 < 16777216; decide), (by show 1 < 256; decide), so.status, by show s.applied + 1 < 256; omega, tok.gas, by show T.gas - intrN T < _; omega, so.left, (Nat.lt_of_le_of_lt (price_le vd).1 (feeM_lt tok)), so.total, tok.frm, (by show 0 < A160; decide)⟩, eC.mono hL0, (by simp only [size_spl, Array.size_setIfInBounds]; exact hszC), _, _, _, _, _, _, _, _, _, _, _, _, _, _, _, _, _, _, _, _, _, _, _, _, rS, rOr, rMd, lv87, hA1, hS1, (hRf.mono hL0), (hTm.mono hL0), (hMd.mono hL0), (hGn.mono hL0), lvz76, (BV.nil _), n34, n39, (hLf.mono hL0), n42, (hTt.mono hL0)⟩
                                                                                        have hsEe : ({ bS s T with phase := 1 } : YSt) = { s with now := { s.now with accts := bA2 s T, warmA := (bW s T).warmA, warmS := (bW s T).warmS }, start := startL s.now.accts, frames := [], ret := [], applied := s.applied + 1, limit := T.gas, txGas := T.gas - intrN T, price := priceN s T, origin := T.frm, made := 0, phase := 1 } := by
                                                                                          unfold bS
                                                                                          rw [if_neg (show ¬ T.create = true by rw [hcr]; exact Bool.false_ne_true)]
                                                                                          exact congrArg (fun W : YWorld => ({ s with now := W, start := startL s.now.accts, frames := [], ret := [], applied := s.applied + 1, limit := T.gas, txGas := T.gas - intrN T, price := priceN s T, origin := T.frm, made := 0, phase := 1 } : YSt)) (bW_eq s T)
                                                                                        have hsE := hsE0
                                                                                        rw [← hsEe] at hsE
                                                                                        have hfN : FC H163 _ 0 (cFr 0 false T.value T.to T.frm (T.gas - intrN T) (natAt T.to) [] T.data) (.slice none 0 0) := (bfr_fc (by decide) (by unfold natAt; split <;> omega) n39 hvv9 (BV.nil _) b163 (by omega) tok.value tok.to tok.frm (by decide) (by omega))
                                                                                        have ebf : bF s T = (cFr 0 false T.value T.to T.frm (T.gas - intrN T) (natAt T.to) [] T.data) := by unfold bF; rw [if_neg (by rw [hcr]; exact Bool.false_ne_true), hTg, if_neg hnt]
                                                                                        have hym : YM w166 H163 bs { bS s T with phase := 1 } (fun b => b = bs ∨ w.heap.size ≤ b) 0 := ym_rest hF kS hsE rfl hlg9 ((rS 4 _ rfl).trans (congrArg some hla9)) nbS (.inl rfl)
                                                                                        refine l_step (y_loadB agg_146 sz_146 (et (gS rfl g0) rfl) (by rw [List.size_toArray, bfr_len]) (at1B k134)) ?_
                                                                                        have hU9 := U.size
                                                                                        refine l_eff (e_callV cal_55 (aC (et (gS rfl g0) rfl) (aC (et g0 rfl) aN)) (yp_enterY hym (by show 0 < 60000; decide) bfr_len hfN rfl (ebf ▸ hen9))) (fun v168 w168 h168 => ?_)
                                                                                        obtain ⟨rfl, H168, bf168, g168, ym168⟩ := h168
                                                                                        replace G := G.trans g168 (by intro b hb; first | omega | exact .inl hb | (simp at hb ⊢; omega))
                                                                                        replace U := U.cc g168.ch (by intro b hb; first | omega | exact .inl hb | (simp at hb ⊢; omega))
                                                                                        refine l_nil ?_
                                                                                        refine hK167 _ _ ?_
                                                                                        refine fg0 (fun g => ?_)
                                                                                        refine c_seq (fun K169 hK169 => ?_)
                                                                                        exact (by
                                                                                          refine c_region ?_
                                                                                          refine l_step y_assignC ?_
                                                                                          refine l_nil ?_
                                                                                          refine hK169 _ _ ?_
                                                                                          refine c_ret ?_
                                                                                          repeat with_reducible refine then_ret ?_
                                                                                          refine ret1 rfl (res_tmp (et g0 rfl)) ?_
                                                                                          have ebY : begY s T = entY { bS s T with phase := 1 } (cFr 0 false T.value T.to T.frm (T.gas - intrN T) (natAt T.to) [] T.data) := by unfold begY; rw [if_neg (fun h9 => by have h8 := h9.1; rw [hcr] at h8; cases h8), ebf]
                                                                                          rw [ebY]
                                                                                          exact ⟨rfl, _, _, G, ym168.wk (fun b hb => hb.elim id (fun h9 => .inr (Nat.le_trans hU9 h9)))⟩)))))))))))))))))))))))))))))))))))))))
end Go.Proofs.YgvaawGreat
