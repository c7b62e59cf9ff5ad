import Derived.Test.YgvaawGreatCl
namespace Go.Proofs.YgvaawGreat
set_option maxRecDepth 100000
open _root_.Go.Proofs.YgvaawGreat.Rows (towerRow towerSpec)
/-! The closed facts of the row, one by one. -/
theorem j1 : towerRow.wf (OpenSpec.ofChange towerSpec) = true := by kernel_rfl
theorem j2 : laidOutB Hvaa.prog = true := by kernel_rfl
theorem j3 : mapsRowed Hvaa.prog = true := by kernel_rfl
theorem j4 : Hvaa.f3.params.all (Hvaa.prog.readableRec ·) = true := by kernel_rfl
theorem j5 : namedTie Hvaa.prog towerRow.named towerSpec.vars = true := by kernel_rfl
theorem j6 : (towerRow.stops == []) = true := by kernel_rfl
theorem j7 : (Hvaa.prog.stops == []) = true := by kernel_rfl
theorem j8 : (towerRow.knobs == []) = true := by kernel_rfl
theorem j9 : (Hvaa.prog.stopKnobs == []) = true := by kernel_rfl
theorem j14 : (towerRow.maps == (Hvaa.f3.params.toList ++ towerSpec.plain.varTypes Hvaa.prog).any (Hvaa.prog.mapsRec ·)) = true := by kernel_rfl
theorem j15 : (towerRow.ifaces == (Hvaa.f3.params.toList ++ towerSpec.plain.varTypes Hvaa.prog).any (Hvaa.prog.ifacesRec ·)) = true := by kernel_rfl
theorem j16 : (towerRow.mapsOut == Hvaa.prog.mapsAmong Hvaa.f3.resultTypes.toList) = true := by kernel_rfl
theorem j17 : (towerRow.loops == (Hvaa.f3.params.toList ++ towerSpec.plain.varTypes Hvaa.prog).any (Hvaa.prog.loopsFrom ·)) = true := by kernel_rfl
theorem j17b : (towerRow.wideKeys == (Hvaa.f3.params.toList ++ towerSpec.plain.varTypes Hvaa.prog ++ Hvaa.f3.resultTypes.toList).any (Hvaa.prog.wideKeysFrom ·)) = true := by kernel_rfl
theorem j18 : towerSpec.vars.all (Hvaa.prog.varReadable ·) = true := by kernel_rfl
theorem j19 : Hvaa.f3.resultTypes.all (fun t => Hvaa.prog.readableRec t && decide (t < Hvaa.prog.types.size)) = true := by kernel_rfl
theorem j20 : (towerRow.ifacesOut == Hvaa.f3.resultTypes.toList.any (Hvaa.prog.ifacesRec ·)) = true := by kernel_rfl
theorem j21 : (towerRow.loopsOut == Hvaa.f3.resultTypes.toList.any (Hvaa.prog.loopsFrom ·)) = true := by kernel_rfl
theorem j22 : (towerRow.plainKeys == Hvaa.prog.plainKeys) = true := by kernel_rfl
theorem j23 : towerRow.shortTexts.isNone = true := by kernel_rfl
theorem j23b : Hvaa.prog.stopsHeard = true := by kernel_rfl
theorem j24 : Hvaa.prog.mayEnter = true := by kernel_rfl
theorem j24b : (towerRow.lifted == Hvaa.prog.liftsFinal) = true := by kernel_rfl
theorem j24c : (Hvaa.prog.make == some towerRow.make) = true := by kernel_rfl
theorem j25 : (towerRow.kinds == (if towerRow.domain.isEmpty then [] else Hvaa.f3.params.toList.map fun t => match Hvaa.prog.underlying t with | some (.int k) => some k | _ => none)) = true := by kernel_rfl
theorem j26 : (towerRow.pinned == towerRow.pinnedBy) = true := by kernel_rfl
theorem j27 : (towerRow.veiled == (Hvaa.f3.params.toList ++ towerSpec.plain.varTypes Hvaa.prog ++ Hvaa.f3.resultTypes.toList).any (Hvaa.prog.veiledRec ·)) = true := by kernel_rfl
theorem j28 : towerRow.veiledFits Hvaa.prog Hvaa.f3.params.toList (Hvaa.f3.params.toList ++ towerSpec.plain.varTypes Hvaa.prog ++ Hvaa.f3.resultTypes.toList) = true := by kernel_rfl
theorem jfn : Hvaa.prog.funcNamed towerRow.func = some 3 := by kernel_rfl
theorem jin : Hvaa.f3.isInstance Hvaa.prog towerRow.origin towerRow.targs := of_decide_eq_true (by kernel_rfl)
theorem jwr : Hvaa.f3.isWrapper Hvaa.prog towerRow.wrapper towerRow.mainSum := by unfold Func.isWrapper; first | (rw [if_pos (by decide +kernel)]; kernel_rfl) | (rw [if_neg (by decide +kernel)]; exact ⟨rfl, rfl⟩)
theorem j10 : (towerRow.inPlace == Hvaa.prog.inPlace 3) = true := by
  rw [cl_inp]
  kernel_rfl
theorem j11 : (towerRow.unfollowed == Hvaa.prog.unfollowed 3) = true := by
  rw [cl_unf]
  kernel_rfl
theorem j12 : (towerRow.recurses == Hvaa.prog.recurses 3) = true := by
  rw [cl_rec]
  kernel_rfl
theorem j13 : (towerRow.named == Hvaa.prog.varsNamed 3) = true := by
  rw [cl_nam]
  kernel_rfl
theorem and_i {a b : Bool} (ha : a = true) (hb : b = true) : (a && b) = true := by
  rw [ha, hb]
  rfl
theorem tower_closed : joinedFacts Hvaa.prog 3 Hvaa.f3 towerSpec towerRow = true := by
  unfold joinedFacts
  exact and_i (and_i (and_i (and_i (and_i (and_i (and_i (and_i (and_i (and_i (and_i (and_i (and_i (and_i (and_i (and_i (and_i (and_i (and_i (and_i (and_i (and_i (and_i (and_i (and_i (and_i (and_i (and_i (and_i (and_i (and_i j1 j2) j3) j4) j5) j6) j7) j8) j9) j10) j11) j12) j13) j14) j15) j16) j17) j17b) j18) j19) j20) j21) j22) j23) j23b) j24) j24b) j24c) j25) j26) j27) j28
end Go.Proofs.YgvaawGreat
