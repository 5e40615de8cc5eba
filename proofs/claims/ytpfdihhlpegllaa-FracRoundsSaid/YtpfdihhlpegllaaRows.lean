/-
  No cell of these rows narrows 'for every input' (looked for: loops, veiled, ifaces, maps, wideKeys, modest, calm, conditions, laid).
  DERIVED. THE GIVEN ROWS OF THIS SEAT. 12 by the template 'for every input the law returns true; each argument reads behind the call as it read before'; 0 by the template 'total and deterministic' (their statements: YtpfdihhlpegllaaTotals.lean).
  GIVEN WITH THE SEED: the statements are not yours to turn. If you find one false, say at which input.
  Laid BY PROGRAM, IN A SANDBOX (cutbox-rows.mjs): the forced cells as the released guide's own fill.sh prints them over the translation 8023e5ca2d64a65d… (all of the seat's roots in one cut). By AI agents, Wed Nov 11 2026. No macro, syntax, notation, axiom, sorry.
-/
import Derived.Test.YtpfdihhlpegllaaChecked
import GoSem.Claim
import GoSem.ClaimJoined
import GoSem.ClaimMapViews
import Derived.JoinedTies
import Derived.KernelRfl
namespace Go.Proofs.Ytpfdihhlpegllaa
/- THE CELL 'sum', in the pinned program and in every row, IS THE sha256 OF THE DUMP (.gsa) THAT YtpfdihhlpegllaaProg.lean LOADS. Nothing in Lean hashes anything: it is a label: what it is worth is what the hold of that sum in a sandbox is worth. -/
noncomputable def Try.pinned : Pinned := { name := "ytpfdihhlpegllaa", sum := "8023e5ca2d64a65d8b42b5a07105349af06e603c9e73a341999b494ca1965cab", checked := Try.checked }
namespace Rows
def none {H : Type} : Left H := { results := [], args := [] }

/-- 'terrlaw1.BoxTells': WHATEVER THE INPUT: true; the input reads as it did. -/
def boxTellsSpec : ChangeSpec := { name := "boxTells", fn := fun _ => fun
  | [d1, d2, d3, d4, d5] => { results := [.lit (.bool true)], args := [d1, d2, d3, d4, d5] }
  | _ => none }
def boxTellsRow : OpenClaim := { program := "ytpfdihhlpegllaa", sum := "8023e5ca2d64a65d8b42b5a07105349af06e603c9e73a341999b494ca1965cab", func := "terrier/terrlaw1.BoxTells", spec := "boxTells", apart := false }
def BoxTellsSaid : Prop := boxTellsRow.holds Try.pinned (OpenSpec.ofChange boxTellsSpec)

/-- ITS FALSE NEIGHBOUR: 'it returns false'. Refute it at one input. -/
def boxTellsWrong : ChangeSpec := { name := "boxTells", fn := fun _ => fun
  | [d1, d2, d3, d4, d5] => { results := [.lit (.bool false)], args := [d1, d2, d3, d4, d5] }
  | _ => none }
def BoxTellsWrongFalsely : Prop := boxTellsRow.holds Try.pinned (OpenSpec.ofChange boxTellsWrong)

/-- 'terrlaw1.CurveTells': WHATEVER THE INPUT: true; the input reads as it did. -/
def curveTellsSpec : ChangeSpec := { name := "curveTells", fn := fun _ => fun
  | [d1, d2] => { results := [.lit (.bool true)], args := [d1, d2] }
  | _ => none }
def curveTellsRow : OpenClaim := { program := "ytpfdihhlpegllaa", sum := "8023e5ca2d64a65d8b42b5a07105349af06e603c9e73a341999b494ca1965cab", func := "terrier/terrlaw1.CurveTells", spec := "curveTells", unfollowed := true, recurses := true, apart := false }
def CurveTellsSaid : Prop := curveTellsRow.holds Try.pinned (OpenSpec.ofChange curveTellsSpec)

/-- ITS FALSE NEIGHBOUR: 'it returns false'. Refute it at one input. -/
def curveTellsWrong : ChangeSpec := { name := "curveTells", fn := fun _ => fun
  | [d1, d2] => { results := [.lit (.bool false)], args := [d1, d2] }
  | _ => none }
def CurveTellsWrongFalsely : Prop := curveTellsRow.holds Try.pinned (OpenSpec.ofChange curveTellsWrong)

/-- 'terrlaw1.PointTells': WHATEVER THE INPUT: true; the input reads as it did. -/
def pointTellsSpec : ChangeSpec := { name := "pointTells", fn := fun _ => fun
  | [d1, d2, d3] => { results := [.lit (.bool true)], args := [d1, d2, d3] }
  | _ => none }
def pointTellsRow : OpenClaim := { program := "ytpfdihhlpegllaa", sum := "8023e5ca2d64a65d8b42b5a07105349af06e603c9e73a341999b494ca1965cab", func := "terrier/terrlaw1.PointTells", spec := "pointTells", apart := false }
def PointTellsSaid : Prop := pointTellsRow.holds Try.pinned (OpenSpec.ofChange pointTellsSpec)

/-- ITS FALSE NEIGHBOUR: 'it returns false'. Refute it at one input. -/
def pointTellsWrong : ChangeSpec := { name := "pointTells", fn := fun _ => fun
  | [d1, d2, d3] => { results := [.lit (.bool false)], args := [d1, d2, d3] }
  | _ => none }
def PointTellsWrongFalsely : Prop := pointTellsRow.holds Try.pinned (OpenSpec.ofChange pointTellsWrong)

/-- 'terrkeep1.PointLaws': WHATEVER THE INPUT: true; the input reads as it did. -/
def pointLawsSpec : ChangeSpec := { name := "pointLaws", fn := fun _ => fun
  | [d1, d2, d3, d4] => { results := [.lit (.bool true)], args := [d1, d2, d3, d4] }
  | _ => none }
def pointLawsRow : OpenClaim := { program := "ytpfdihhlpegllaa", sum := "8023e5ca2d64a65d8b42b5a07105349af06e603c9e73a341999b494ca1965cab", func := "terrier/terrkeep1.PointLaws", spec := "pointLaws", unfollowed := true, recurses := true, apart := false }
def PointLawsSaid : Prop := pointLawsRow.holds Try.pinned (OpenSpec.ofChange pointLawsSpec)

/-- ITS FALSE NEIGHBOUR: 'it returns false'. Refute it at one input. -/
def pointLawsWrong : ChangeSpec := { name := "pointLaws", fn := fun _ => fun
  | [d1, d2, d3, d4] => { results := [.lit (.bool false)], args := [d1, d2, d3, d4] }
  | _ => none }
def PointLawsWrongFalsely : Prop := pointLawsRow.holds Try.pinned (OpenSpec.ofChange pointLawsWrong)

/-- 'terrlaw1.FracRounds': WHATEVER THE INPUT: true; the input reads as it did. -/
def fracRoundsSpec : ChangeSpec := { name := "fracRounds", fn := fun _ => fun
  | [d] => { results := [.lit (.bool true)], args := [d] }
  | _ => none }
def fracRoundsRow : OpenClaim := { program := "ytpfdihhlpegllaa", sum := "8023e5ca2d64a65d8b42b5a07105349af06e603c9e73a341999b494ca1965cab", func := "terrier/terrlaw1.FracRounds", spec := "fracRounds", apart := false }
def FracRoundsSaid : Prop := fracRoundsRow.holds Try.pinned (OpenSpec.ofChange fracRoundsSpec)

/-- ITS FALSE NEIGHBOUR: 'it returns false'. Refute it at one input. -/
def fracRoundsWrong : ChangeSpec := { name := "fracRounds", fn := fun _ => fun
  | [d] => { results := [.lit (.bool false)], args := [d] }
  | _ => none }
def FracRoundsWrongFalsely : Prop := fracRoundsRow.holds Try.pinned (OpenSpec.ofChange fracRoundsWrong)

/-- 'terrlaw1.PointAngles': WHATEVER THE INPUT: true; the input reads as it did. -/
def pointAnglesSpec : ChangeSpec := { name := "pointAngles", fn := fun _ => fun
  | [d1, d2] => { results := [.lit (.bool true)], args := [d1, d2] }
  | _ => none }
def pointAnglesRow : OpenClaim := { program := "ytpfdihhlpegllaa", sum := "8023e5ca2d64a65d8b42b5a07105349af06e603c9e73a341999b494ca1965cab", func := "terrier/terrlaw1.PointAngles", spec := "pointAngles", unfollowed := true, recurses := true, apart := false }
def PointAnglesSaid : Prop := pointAnglesRow.holds Try.pinned (OpenSpec.ofChange pointAnglesSpec)

/-- ITS FALSE NEIGHBOUR: 'it returns false'. Refute it at one input. -/
def pointAnglesWrong : ChangeSpec := { name := "pointAngles", fn := fun _ => fun
  | [d1, d2] => { results := [.lit (.bool false)], args := [d1, d2] }
  | _ => none }
def PointAnglesWrongFalsely : Prop := pointAnglesRow.holds Try.pinned (OpenSpec.ofChange pointAnglesWrong)

/-- 'terrkeep1.PointRounds': WHATEVER THE INPUT: true; the input reads as it did. -/
def pointRoundsSpec : ChangeSpec := { name := "pointRounds", fn := fun _ => fun
  | [d1, d2, d3] => { results := [.lit (.bool true)], args := [d1, d2, d3] }
  | _ => none }
def pointRoundsRow : OpenClaim := { program := "ytpfdihhlpegllaa", sum := "8023e5ca2d64a65d8b42b5a07105349af06e603c9e73a341999b494ca1965cab", func := "terrier/terrkeep1.PointRounds", spec := "pointRounds", apart := false }
def PointRoundsSaid : Prop := pointRoundsRow.holds Try.pinned (OpenSpec.ofChange pointRoundsSpec)

/-- ITS FALSE NEIGHBOUR: 'it returns false'. Refute it at one input. -/
def pointRoundsWrong : ChangeSpec := { name := "pointRounds", fn := fun _ => fun
  | [d1, d2, d3] => { results := [.lit (.bool false)], args := [d1, d2, d3] }
  | _ => none }
def PointRoundsWrongFalsely : Prop := pointRoundsRow.holds Try.pinned (OpenSpec.ofChange pointRoundsWrong)

/-- 'terrkeep1.CurveSquares': WHATEVER THE INPUT: true; the input reads as it did. -/
def curveSquaresSpec : ChangeSpec := { name := "curveSquares", fn := fun _ => fun
  | [d1, d2, d3] => { results := [.lit (.bool true)], args := [d1, d2, d3] }
  | _ => none }
def curveSquaresRow : OpenClaim := { program := "ytpfdihhlpegllaa", sum := "8023e5ca2d64a65d8b42b5a07105349af06e603c9e73a341999b494ca1965cab", func := "terrier/terrkeep1.CurveSquares", spec := "curveSquares", apart := false }
def CurveSquaresSaid : Prop := curveSquaresRow.holds Try.pinned (OpenSpec.ofChange curveSquaresSpec)

/-- ITS FALSE NEIGHBOUR: 'it returns false'. Refute it at one input. -/
def curveSquaresWrong : ChangeSpec := { name := "curveSquares", fn := fun _ => fun
  | [d1, d2, d3] => { results := [.lit (.bool false)], args := [d1, d2, d3] }
  | _ => none }
def CurveSquaresWrongFalsely : Prop := curveSquaresRow.holds Try.pinned (OpenSpec.ofChange curveSquaresWrong)

/-- 'terrkeep1.BoxSets': WHATEVER THE INPUT: true; the input reads as it did. -/
def boxSetsSpec : ChangeSpec := { name := "boxSets", fn := fun _ => fun
  | [d1, d2, d3] => { results := [.lit (.bool true)], args := [d1, d2, d3] }
  | _ => none }
def boxSetsRow : OpenClaim := { program := "ytpfdihhlpegllaa", sum := "8023e5ca2d64a65d8b42b5a07105349af06e603c9e73a341999b494ca1965cab", func := "terrier/terrkeep1.BoxSets", spec := "boxSets", apart := false }
def BoxSetsSaid : Prop := boxSetsRow.holds Try.pinned (OpenSpec.ofChange boxSetsSpec)

/-- ITS FALSE NEIGHBOUR: 'it returns false'. Refute it at one input. -/
def boxSetsWrong : ChangeSpec := { name := "boxSets", fn := fun _ => fun
  | [d1, d2, d3] => { results := [.lit (.bool false)], args := [d1, d2, d3] }
  | _ => none }
def BoxSetsWrongFalsely : Prop := boxSetsRow.holds Try.pinned (OpenSpec.ofChange boxSetsWrong)

/-- 'terrkeep1.CurveSteps': WHATEVER THE INPUT: true; the input reads as it did. -/
def curveStepsSpec : ChangeSpec := { name := "curveSteps", fn := fun _ => fun
  | [d1, d2] => { results := [.lit (.bool true)], args := [d1, d2] }
  | _ => none }
def curveStepsRow : OpenClaim := { program := "ytpfdihhlpegllaa", sum := "8023e5ca2d64a65d8b42b5a07105349af06e603c9e73a341999b494ca1965cab", func := "terrier/terrkeep1.CurveSteps", spec := "curveSteps", apart := false }
def CurveStepsSaid : Prop := curveStepsRow.holds Try.pinned (OpenSpec.ofChange curveStepsSpec)

/-- ITS FALSE NEIGHBOUR: 'it returns false'. Refute it at one input. -/
def curveStepsWrong : ChangeSpec := { name := "curveSteps", fn := fun _ => fun
  | [d1, d2] => { results := [.lit (.bool false)], args := [d1, d2] }
  | _ => none }
def CurveStepsWrongFalsely : Prop := curveStepsRow.holds Try.pinned (OpenSpec.ofChange curveStepsWrong)

/-- 'terrkeep1.BoxCuts': WHATEVER THE INPUT: true; the input reads as it did. -/
def boxCutsSpec : ChangeSpec := { name := "boxCuts", fn := fun _ => fun
  | [d1, d2, d3] => { results := [.lit (.bool true)], args := [d1, d2, d3] }
  | _ => none }
def boxCutsRow : OpenClaim := { program := "ytpfdihhlpegllaa", sum := "8023e5ca2d64a65d8b42b5a07105349af06e603c9e73a341999b494ca1965cab", func := "terrier/terrkeep1.BoxCuts", spec := "boxCuts", apart := false }
def BoxCutsSaid : Prop := boxCutsRow.holds Try.pinned (OpenSpec.ofChange boxCutsSpec)

/-- ITS FALSE NEIGHBOUR: 'it returns false'. Refute it at one input. -/
def boxCutsWrong : ChangeSpec := { name := "boxCuts", fn := fun _ => fun
  | [d1, d2, d3] => { results := [.lit (.bool false)], args := [d1, d2, d3] }
  | _ => none }
def BoxCutsWrongFalsely : Prop := boxCutsRow.holds Try.pinned (OpenSpec.ofChange boxCutsWrong)

/-- 'terrlaw1.FracMuls': WHATEVER THE INPUT: true; the input reads as it did. -/
def fracMulsSpec : ChangeSpec := { name := "fracMuls", fn := fun _ => fun
  | [d1, d2, d3, d4] => { results := [.lit (.bool true)], args := [d1, d2, d3, d4] }
  | _ => none }
def fracMulsRow : OpenClaim := { program := "ytpfdihhlpegllaa", sum := "8023e5ca2d64a65d8b42b5a07105349af06e603c9e73a341999b494ca1965cab", func := "terrier/terrlaw1.FracMuls", spec := "fracMuls", apart := false }
def FracMulsSaid : Prop := fracMulsRow.holds Try.pinned (OpenSpec.ofChange fracMulsSpec)

/-- ITS FALSE NEIGHBOUR: 'it returns false'. Refute it at one input. -/
def fracMulsWrong : ChangeSpec := { name := "fracMuls", fn := fun _ => fun
  | [d1, d2, d3, d4] => { results := [.lit (.bool false)], args := [d1, d2, d3, d4] }
  | _ => none }
def FracMulsWrongFalsely : Prop := fracMulsRow.holds Try.pinned (OpenSpec.ofChange fracMulsWrong)

/- THE SECOND FORM. 'bulk': how many values and letters a reading holds, each counted each time it is reached (what is shared counts as often as it is met; a slice's spare places count too). A statement '..UptoSaid' is the law's where the arguments, and the package variables that the reading takes, are together of bulk at most 1048576: NARROWER than '..Said'. Prove '..Said' where nothing that the law and all that it calls make is longer than what came in: it says more and counts as full. Else prove '..UptoSaid'. A law counts once. -/
mutual
def uptoBulk {H : Type} : DataW H → Nat
  | .lit (.string bytes) => bytes.length + 1
  | .lit _ => 1
  | .nil => 1
  | .ptr d => uptoBulk d + 1
  | .slice elems spare => uptoBulkAll elems + uptoBulkAll spare + 1
  | .agg parts => uptoBulkAll parts + 1
  | .iface _ d => uptoBulk d + 1
  | .map entries => uptoBulkEntries entries + 1
  | .held _ => 1
def uptoBulkAll {H : Type} : List (DataW H) → Nat
  | [] => 0
  | d :: r => uptoBulk d + uptoBulkAll r
def uptoBulkEntries {H : Type} : List (Lit × DataW H) → Nat
  | [] => 0
  | x :: r => uptoBulkEntry x + uptoBulkEntries r
def uptoBulkEntry {H : Type} : Lit × DataW H → Nat
  | (.string bytes, d) => bytes.length + uptoBulk d + 1
  | (_, d) => uptoBulk d + 1
 end
def uptoSmall : (H : Type) → List (DataW H) → Bool := fun _ ds => decide (uptoBulkAll ds ≤ 1048576)
def OpenSpec.upto (s : _root_.Go.ChangeSpec) : _root_.Go.OpenSpec := { _root_.Go.OpenSpec.ofChange s with cond := some uptoSmall }

/-- 'terrlaw1.BoxTells', WHERE WHAT IT READS IS OF BULK AT MOST 1048576: true; the input reads as it did. -/
def boxTellsUptoRow : OpenClaim := { program := "ytpfdihhlpegllaa", sum := "8023e5ca2d64a65d8b42b5a07105349af06e603c9e73a341999b494ca1965cab", func := "terrier/terrlaw1.BoxTells", spec := "boxTells", apart := false, narrowed := true }
def BoxTellsUptoSaid : Prop := boxTellsUptoRow.holds Try.pinned (OpenSpec.upto boxTellsSpec)

/-- 'terrlaw1.CurveTells', WHERE WHAT IT READS IS OF BULK AT MOST 1048576: true; the input reads as it did. -/
def curveTellsUptoRow : OpenClaim := { program := "ytpfdihhlpegllaa", sum := "8023e5ca2d64a65d8b42b5a07105349af06e603c9e73a341999b494ca1965cab", func := "terrier/terrlaw1.CurveTells", spec := "curveTells", unfollowed := true, recurses := true, apart := false, narrowed := true }
def CurveTellsUptoSaid : Prop := curveTellsUptoRow.holds Try.pinned (OpenSpec.upto curveTellsSpec)

/-- 'terrlaw1.PointTells', WHERE WHAT IT READS IS OF BULK AT MOST 1048576: true; the input reads as it did. -/
def pointTellsUptoRow : OpenClaim := { program := "ytpfdihhlpegllaa", sum := "8023e5ca2d64a65d8b42b5a07105349af06e603c9e73a341999b494ca1965cab", func := "terrier/terrlaw1.PointTells", spec := "pointTells", apart := false, narrowed := true }
def PointTellsUptoSaid : Prop := pointTellsUptoRow.holds Try.pinned (OpenSpec.upto pointTellsSpec)

/-- 'terrkeep1.PointLaws', WHERE WHAT IT READS IS OF BULK AT MOST 1048576: true; the input reads as it did. -/
def pointLawsUptoRow : OpenClaim := { program := "ytpfdihhlpegllaa", sum := "8023e5ca2d64a65d8b42b5a07105349af06e603c9e73a341999b494ca1965cab", func := "terrier/terrkeep1.PointLaws", spec := "pointLaws", unfollowed := true, recurses := true, apart := false, narrowed := true }
def PointLawsUptoSaid : Prop := pointLawsUptoRow.holds Try.pinned (OpenSpec.upto pointLawsSpec)

/-- 'terrlaw1.FracRounds', WHERE WHAT IT READS IS OF BULK AT MOST 1048576: true; the input reads as it did. -/
def fracRoundsUptoRow : OpenClaim := { program := "ytpfdihhlpegllaa", sum := "8023e5ca2d64a65d8b42b5a07105349af06e603c9e73a341999b494ca1965cab", func := "terrier/terrlaw1.FracRounds", spec := "fracRounds", apart := false, narrowed := true }
def FracRoundsUptoSaid : Prop := fracRoundsUptoRow.holds Try.pinned (OpenSpec.upto fracRoundsSpec)

/-- 'terrlaw1.PointAngles', WHERE WHAT IT READS IS OF BULK AT MOST 1048576: true; the input reads as it did. -/
def pointAnglesUptoRow : OpenClaim := { program := "ytpfdihhlpegllaa", sum := "8023e5ca2d64a65d8b42b5a07105349af06e603c9e73a341999b494ca1965cab", func := "terrier/terrlaw1.PointAngles", spec := "pointAngles", unfollowed := true, recurses := true, apart := false, narrowed := true }
def PointAnglesUptoSaid : Prop := pointAnglesUptoRow.holds Try.pinned (OpenSpec.upto pointAnglesSpec)

/-- 'terrkeep1.PointRounds', WHERE WHAT IT READS IS OF BULK AT MOST 1048576: true; the input reads as it did. -/
def pointRoundsUptoRow : OpenClaim := { program := "ytpfdihhlpegllaa", sum := "8023e5ca2d64a65d8b42b5a07105349af06e603c9e73a341999b494ca1965cab", func := "terrier/terrkeep1.PointRounds", spec := "pointRounds", apart := false, narrowed := true }
def PointRoundsUptoSaid : Prop := pointRoundsUptoRow.holds Try.pinned (OpenSpec.upto pointRoundsSpec)

/-- 'terrkeep1.CurveSquares', WHERE WHAT IT READS IS OF BULK AT MOST 1048576: true; the input reads as it did. -/
def curveSquaresUptoRow : OpenClaim := { program := "ytpfdihhlpegllaa", sum := "8023e5ca2d64a65d8b42b5a07105349af06e603c9e73a341999b494ca1965cab", func := "terrier/terrkeep1.CurveSquares", spec := "curveSquares", apart := false, narrowed := true }
def CurveSquaresUptoSaid : Prop := curveSquaresUptoRow.holds Try.pinned (OpenSpec.upto curveSquaresSpec)

/-- 'terrkeep1.BoxSets', WHERE WHAT IT READS IS OF BULK AT MOST 1048576: true; the input reads as it did. -/
def boxSetsUptoRow : OpenClaim := { program := "ytpfdihhlpegllaa", sum := "8023e5ca2d64a65d8b42b5a07105349af06e603c9e73a341999b494ca1965cab", func := "terrier/terrkeep1.BoxSets", spec := "boxSets", apart := false, narrowed := true }
def BoxSetsUptoSaid : Prop := boxSetsUptoRow.holds Try.pinned (OpenSpec.upto boxSetsSpec)

/-- 'terrkeep1.CurveSteps', WHERE WHAT IT READS IS OF BULK AT MOST 1048576: true; the input reads as it did. -/
def curveStepsUptoRow : OpenClaim := { program := "ytpfdihhlpegllaa", sum := "8023e5ca2d64a65d8b42b5a07105349af06e603c9e73a341999b494ca1965cab", func := "terrier/terrkeep1.CurveSteps", spec := "curveSteps", apart := false, narrowed := true }
def CurveStepsUptoSaid : Prop := curveStepsUptoRow.holds Try.pinned (OpenSpec.upto curveStepsSpec)

/-- 'terrkeep1.BoxCuts', WHERE WHAT IT READS IS OF BULK AT MOST 1048576: true; the input reads as it did. -/
def boxCutsUptoRow : OpenClaim := { program := "ytpfdihhlpegllaa", sum := "8023e5ca2d64a65d8b42b5a07105349af06e603c9e73a341999b494ca1965cab", func := "terrier/terrkeep1.BoxCuts", spec := "boxCuts", apart := false, narrowed := true }
def BoxCutsUptoSaid : Prop := boxCutsUptoRow.holds Try.pinned (OpenSpec.upto boxCutsSpec)

/-- 'terrlaw1.FracMuls', WHERE WHAT IT READS IS OF BULK AT MOST 1048576: true; the input reads as it did. -/
def fracMulsUptoRow : OpenClaim := { program := "ytpfdihhlpegllaa", sum := "8023e5ca2d64a65d8b42b5a07105349af06e603c9e73a341999b494ca1965cab", func := "terrier/terrlaw1.FracMuls", spec := "fracMuls", apart := false, narrowed := true }
def FracMulsUptoSaid : Prop := fracMulsUptoRow.holds Try.pinned (OpenSpec.upto fracMulsSpec)

end Rows
end Go.Proofs.Ytpfdihhlpegllaa
