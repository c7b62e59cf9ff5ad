/-
  No cell of these rows narrows 'for every input' (looked for: loops, veiled, ifaces, maps, wideKeys, modest, calm, conditions, laid).
  DERIVED. THE GIVEN ROWS OF THIS SEAT. 1 by the template 'for every input the law returns true; each argument reads behind the call as it read before'; 0 by the template 'total and deterministic' (their statements: YgvaawGreatTotals.lean).
  GIVEN WITH THE SEED: the statements are not yours to turn. If you find one false, say at which input.
  Laid BY PROGRAM, IN A SANDBOX (cutbox-rows.mjs): the forced cells as the released guide's own fill.sh prints them over the translation 7928f24c22b52367… (all of the seat's roots in one cut). By AI agents, Wed Nov 11 2026. No macro, syntax, notation, axiom, sorry.
-/
import Derived.Test.YgvaawGreatChecked
import GoSem.Claim
import GoSem.ClaimJoined
import GoSem.ClaimMapViews
import Derived.JoinedTies
import Derived.KernelRfl
namespace Go.Proofs.YgvaawGreat
/- THE CELL 'sum', in the pinned program and in every row, IS THE sha256 OF THE DUMP (.gsa) THAT YgvaawGreatProg.lean LOADS. Nothing in Lean hashes anything: it is a label: what it is worth is what the hold of that sum in a sandbox is worth. -/
noncomputable def Hvaa.pinned : Pinned := { name := "ygvaawgreat", sum := "7928f24c22b523674fd9a8c6a8be4701790171d83292cb37ef569e5826ea536e", checked := Hvaa.checked }
namespace Rows
def none {H : Type} : Left H := { results := [], args := [] }

/-- 'law.Tower': WHATEVER THE INPUT: true; the input reads as it did. -/
def towerSpec : ChangeSpec := { name := "tower", fn := fun _ => fun
  | [d1, d2, d3] => { results := [.lit (.bool true)], args := [d1, d2, d3] }
  | _ => none }
def towerRow : OpenClaim := { program := "ygvaawgreat", sum := "7928f24c22b523674fd9a8c6a8be4701790171d83292cb37ef569e5826ea536e", func := "yellow/law.Tower", spec := "tower", inPlace := ["math/bits.Add64", "math/bits.Sub64"], named := ["math/bits.divideError", "math/bits.overflowError"], apart := false }
def TowerSaid : Prop := towerRow.holds Hvaa.pinned (OpenSpec.ofChange towerSpec)

/-- ITS FALSE NEIGHBOUR: 'it returns false'. Refute it at one input. -/
def towerWrong : ChangeSpec := { name := "tower", fn := fun _ => fun
  | [d1, d2, d3] => { results := [.lit (.bool false)], args := [d1, d2, d3] }
  | _ => none }
def TowerWrongFalsely : Prop := towerRow.holds Hvaa.pinned (OpenSpec.ofChange towerWrong)

end Rows
end Go.Proofs.YgvaawGreat
