/-
  No cell of these rows narrows 'for every input' (looked for: loops, veiled, ifaces, maps, wideKeys, modest, calm, conditions, laid).
  DERIVED. THE GIVEN ROWS OF THIS SEAT. 5 by the template 'for every input the law returns true; each argument reads behind the call as it read before'; 0 by the template 'total and deterministic' (their statements: YtndkhgfecnbmnaaTotals.lean).
  GIVEN WITH THE SEED: the statements are not yours to turn. If you find one false, say at which input.
  Laid BY PROGRAM, IN A SANDBOX (cutbox-rows.mjs): the forced cells as the released guide's own fill.sh prints them over the translation 7a17248bc98a4df6… (all of the seat's roots in one cut). By AI agents, Wed Nov 11 2026. No macro, syntax, notation, axiom, sorry.
-/
import Derived.Test.YtndkhgfecnbmnaaChecked
import GoSem.Claim
import GoSem.ClaimJoined
import GoSem.ClaimMapViews
import Derived.JoinedTies
import Derived.KernelRfl
namespace Go.Proofs.Ytndkhgfecnbmnaa
/- THE CELL 'sum', in the pinned program and in every row, IS THE sha256 OF THE DUMP (.gsa) THAT YtndkhgfecnbmnaaProg.lean LOADS. Nothing in Lean hashes anything: it is a label: what it is worth is what the hold of that sum in a sandbox is worth. -/
noncomputable def Try.pinned : Pinned := { name := "ytndkhgfecnbmnaa", sum := "7a17248bc98a4df6504074673865b931dc41bc0d4bc825260d8eb05ef78bd136", checked := Try.checked }
namespace Rows
def none {H : Type} : Left H := { results := [], args := [] }

/-- 'terrkeep1.AreaParity': WHATEVER THE INPUT: true; the input reads as it did. -/
def areaParitySpec : ChangeSpec := { name := "areaParity", fn := fun _ => fun
  | [d1, d2] => { results := [.lit (.bool true)], args := [d1, d2] }
  | _ => none }
def areaParityRow : OpenClaim := { program := "ytndkhgfecnbmnaa", sum := "7a17248bc98a4df6504074673865b931dc41bc0d4bc825260d8eb05ef78bd136", func := "terrier/terrkeep1.AreaParity", spec := "areaParity", inPlace := ["math/bits.Add64"], unfollowed := true, recurses := true, named := ["math/bits.divideError", "math/bits.overflowError"], apart := false }
def AreaParitySaid : Prop := areaParityRow.holds Try.pinned (OpenSpec.ofChange areaParitySpec)

/-- ITS FALSE NEIGHBOUR: 'it returns false'. Refute it at one input. -/
def areaParityWrong : ChangeSpec := { name := "areaParity", fn := fun _ => fun
  | [d1, d2] => { results := [.lit (.bool false)], args := [d1, d2] }
  | _ => none }
def AreaParityWrongFalsely : Prop := areaParityRow.holds Try.pinned (OpenSpec.ofChange areaParityWrong)

/-- 'terrlaw1.AreaTells': WHATEVER THE INPUT: true; the input reads as it did. -/
def areaTellsSpec : ChangeSpec := { name := "areaTells", fn := fun _ => fun
  | [d1, d2] => { results := [.lit (.bool true)], args := [d1, d2] }
  | _ => none }
def areaTellsRow : OpenClaim := { program := "ytndkhgfecnbmnaa", sum := "7a17248bc98a4df6504074673865b931dc41bc0d4bc825260d8eb05ef78bd136", func := "terrier/terrlaw1.AreaTells", spec := "areaTells", inPlace := ["slices.overlaps[[]terrier/api.Point]"], unfollowed := true, recurses := true, apart := false }
def AreaTellsSaid : Prop := areaTellsRow.holds Try.pinned (OpenSpec.ofChange areaTellsSpec)

/-- ITS FALSE NEIGHBOUR: 'it returns false'. Refute it at one input. -/
def areaTellsWrong : ChangeSpec := { name := "areaTells", fn := fun _ => fun
  | [d1, d2] => { results := [.lit (.bool false)], args := [d1, d2] }
  | _ => none }
def AreaTellsWrongFalsely : Prop := areaTellsRow.holds Try.pinned (OpenSpec.ofChange areaTellsWrong)

/-- 'terrkeep1.AreaNorms': WHATEVER THE INPUT: true; the input reads as it did. -/
def areaNormsSpec : ChangeSpec := { name := "areaNorms", fn := fun _ => fun
  | [d1, d2] => { results := [.lit (.bool true)], args := [d1, d2] }
  | _ => none }
def areaNormsRow : OpenClaim := { program := "ytndkhgfecnbmnaa", sum := "7a17248bc98a4df6504074673865b931dc41bc0d4bc825260d8eb05ef78bd136", func := "terrier/terrkeep1.AreaNorms", spec := "areaNorms", inPlace := ["math/bits.Add64"], unfollowed := true, recurses := true, named := ["math/bits.divideError", "math/bits.overflowError"], apart := false }
def AreaNormsSaid : Prop := areaNormsRow.holds Try.pinned (OpenSpec.ofChange areaNormsSpec)

/-- ITS FALSE NEIGHBOUR: 'it returns false'. Refute it at one input. -/
def areaNormsWrong : ChangeSpec := { name := "areaNorms", fn := fun _ => fun
  | [d1, d2] => { results := [.lit (.bool false)], args := [d1, d2] }
  | _ => none }
def AreaNormsWrongFalsely : Prop := areaNormsRow.holds Try.pinned (OpenSpec.ofChange areaNormsWrong)

/-- 'terrtop.RingsAgree': WHATEVER THE INPUT: true; the input reads as it did. -/
def ringsAgreeSpec : ChangeSpec := { name := "ringsAgree", fn := fun _ => fun
  | [d1, d2] => { results := [.lit (.bool true)], args := [d1, d2] }
  | _ => none }
def ringsAgreeRow : OpenClaim := { program := "ytndkhgfecnbmnaa", sum := "7a17248bc98a4df6504074673865b931dc41bc0d4bc825260d8eb05ef78bd136", func := "terrier/terrtop.RingsAgree", spec := "ringsAgree", inPlace := ["math/bits.Add64", "math/bits.Sub64"], unfollowed := true, recurses := true, named := ["math/bits.divideError", "math/bits.overflowError"], apart := false }
def RingsAgreeSaid : Prop := ringsAgreeRow.holds Try.pinned (OpenSpec.ofChange ringsAgreeSpec)

/-- ITS FALSE NEIGHBOUR: 'it returns false'. Refute it at one input. -/
def ringsAgreeWrong : ChangeSpec := { name := "ringsAgree", fn := fun _ => fun
  | [d1, d2] => { results := [.lit (.bool false)], args := [d1, d2] }
  | _ => none }
def RingsAgreeWrongFalsely : Prop := ringsAgreeRow.holds Try.pinned (OpenSpec.ofChange ringsAgreeWrong)

/-- 'terrtop.BoxesCurve': WHATEVER THE INPUT: true; the input reads as it did. -/
def boxesCurveSpec : ChangeSpec := { name := "boxesCurve", fn := fun _ => fun
  | [d1, d2, d3] => { results := [.lit (.bool true)], args := [d1, d2, d3] }
  | _ => none }
def boxesCurveRow : OpenClaim := { program := "ytndkhgfecnbmnaa", sum := "7a17248bc98a4df6504074673865b931dc41bc0d4bc825260d8eb05ef78bd136", func := "terrier/terrtop.BoxesCurve", spec := "boxesCurve", inPlace := ["math/bits.Add64", "math/bits.Sub64"], unfollowed := true, recurses := true, named := ["math/bits.divideError", "math/bits.overflowError"], apart := false }
def BoxesCurveSaid : Prop := boxesCurveRow.holds Try.pinned (OpenSpec.ofChange boxesCurveSpec)

/-- ITS FALSE NEIGHBOUR: 'it returns false'. Refute it at one input. -/
def boxesCurveWrong : ChangeSpec := { name := "boxesCurve", fn := fun _ => fun
  | [d1, d2, d3] => { results := [.lit (.bool false)], args := [d1, d2, d3] }
  | _ => none }
def BoxesCurveWrongFalsely : Prop := boxesCurveRow.holds Try.pinned (OpenSpec.ofChange boxesCurveWrong)

/- THE SECOND FORM. 'bulk': how many values and letters a reading holds, each counted each time it is reached (what is shared counts as often as it is met; a slice's spare places count too). A statement '..UptoSaid' is the law's where the arguments, and the package variables that the reading takes, are together of bulk at most 1048576: NARROWER than '..Said'. Prove '..Said' where nothing that the law and all that it calls make is longer than what came in: it says more and counts as full. Else prove '..UptoSaid'. A law counts once. -/
mutual
def uptoBulk {H : Type} : DataW H → Nat
  | .lit (.string bytes) => bytes.length + 1
  | .lit _ => 1
  | .nil => 1
  | .ptr d => uptoBulk d + 1
  | .slice elems spare => uptoBulkAll elems + uptoBulkAll spare + 1
  | .agg parts => uptoBulkAll parts + 1
  | .iface _ d => uptoBulk d + 1
  | .map entries => uptoBulkEntries entries + 1
  | .held _ => 1
def uptoBulkAll {H : Type} : List (DataW H) → Nat
  | [] => 0
  | d :: r => uptoBulk d + uptoBulkAll r
def uptoBulkEntries {H : Type} : List (Lit × DataW H) → Nat
  | [] => 0
  | x :: r => uptoBulkEntry x + uptoBulkEntries r
def uptoBulkEntry {H : Type} : Lit × DataW H → Nat
  | (.string bytes, d) => bytes.length + uptoBulk d + 1
  | (_, d) => uptoBulk d + 1
 end
def uptoSmall : (H : Type) → List (DataW H) → Bool := fun _ ds => decide (uptoBulkAll ds ≤ 1048576)
def OpenSpec.upto (s : _root_.Go.ChangeSpec) : _root_.Go.OpenSpec := { _root_.Go.OpenSpec.ofChange s with cond := some uptoSmall }

/-- 'terrkeep1.AreaParity', WHERE WHAT IT READS IS OF BULK AT MOST 1048576: true; the input reads as it did. -/
def areaParityUptoRow : OpenClaim := { program := "ytndkhgfecnbmnaa", sum := "7a17248bc98a4df6504074673865b931dc41bc0d4bc825260d8eb05ef78bd136", func := "terrier/terrkeep1.AreaParity", spec := "areaParity", inPlace := ["math/bits.Add64"], unfollowed := true, recurses := true, named := ["math/bits.divideError", "math/bits.overflowError"], apart := false, narrowed := true }
def AreaParityUptoSaid : Prop := areaParityUptoRow.holds Try.pinned (OpenSpec.upto areaParitySpec)

/-- 'terrlaw1.AreaTells', WHERE WHAT IT READS IS OF BULK AT MOST 1048576: true; the input reads as it did. -/
def areaTellsUptoRow : OpenClaim := { program := "ytndkhgfecnbmnaa", sum := "7a17248bc98a4df6504074673865b931dc41bc0d4bc825260d8eb05ef78bd136", func := "terrier/terrlaw1.AreaTells", spec := "areaTells", inPlace := ["slices.overlaps[[]terrier/api.Point]"], unfollowed := true, recurses := true, apart := false, narrowed := true }
def AreaTellsUptoSaid : Prop := areaTellsUptoRow.holds Try.pinned (OpenSpec.upto areaTellsSpec)

/-- 'terrkeep1.AreaNorms', WHERE WHAT IT READS IS OF BULK AT MOST 1048576: true; the input reads as it did. -/
def areaNormsUptoRow : OpenClaim := { program := "ytndkhgfecnbmnaa", sum := "7a17248bc98a4df6504074673865b931dc41bc0d4bc825260d8eb05ef78bd136", func := "terrier/terrkeep1.AreaNorms", spec := "areaNorms", inPlace := ["math/bits.Add64"], unfollowed := true, recurses := true, named := ["math/bits.divideError", "math/bits.overflowError"], apart := false, narrowed := true }
def AreaNormsUptoSaid : Prop := areaNormsUptoRow.holds Try.pinned (OpenSpec.upto areaNormsSpec)

/-- 'terrtop.RingsAgree', WHERE WHAT IT READS IS OF BULK AT MOST 1048576: true; the input reads as it did. -/
def ringsAgreeUptoRow : OpenClaim := { program := "ytndkhgfecnbmnaa", sum := "7a17248bc98a4df6504074673865b931dc41bc0d4bc825260d8eb05ef78bd136", func := "terrier/terrtop.RingsAgree", spec := "ringsAgree", inPlace := ["math/bits.Add64", "math/bits.Sub64"], unfollowed := true, recurses := true, named := ["math/bits.divideError", "math/bits.overflowError"], apart := false, narrowed := true }
def RingsAgreeUptoSaid : Prop := ringsAgreeUptoRow.holds Try.pinned (OpenSpec.upto ringsAgreeSpec)

/-- 'terrtop.BoxesCurve', WHERE WHAT IT READS IS OF BULK AT MOST 1048576: true; the input reads as it did. -/
def boxesCurveUptoRow : OpenClaim := { program := "ytndkhgfecnbmnaa", sum := "7a17248bc98a4df6504074673865b931dc41bc0d4bc825260d8eb05ef78bd136", func := "terrier/terrtop.BoxesCurve", spec := "boxesCurve", inPlace := ["math/bits.Add64", "math/bits.Sub64"], unfollowed := true, recurses := true, named := ["math/bits.divideError", "math/bits.overflowError"], apart := false, narrowed := true }
def BoxesCurveUptoSaid : Prop := boxesCurveUptoRow.holds Try.pinned (OpenSpec.upto boxesCurveSpec)

end Rows
end Go.Proofs.Ytndkhgfecnbmnaa
