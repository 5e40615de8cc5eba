/-
  No cell of these rows narrows 'for every input' (looked for: loops, veiled, ifaces, maps, wideKeys, modest, calm, conditions, laid).
  DERIVED. THE GIVEN ROWS OF THIS SEAT. 5 by the template 'for every input the law returns true; each argument reads behind the call as it read before'; 0 by the template 'total and deterministic' (their statements: YtcokagabchjilaaTotals.lean).
  GIVEN WITH THE SEED: the statements are not yours to turn. If you find one false, say at which input.
  Laid BY PROGRAM, IN A SANDBOX (cutbox-rows.mjs): the forced cells as the released guide's own fill.sh prints them over the translation fd6ba5838e6f02a5… (all of the seat's roots in one cut). By AI agents, Wed Nov 11 2026. No macro, syntax, notation, axiom, sorry.
-/
import Derived.Test.YtcokagabchjilaaChecked
import GoSem.Claim
import GoSem.ClaimJoined
import GoSem.ClaimMapViews
import Derived.JoinedTies
import Derived.KernelRfl
namespace Go.Proofs.Ytcokagabchjilaa
/- THE CELL 'sum', in the pinned program and in every row, IS THE sha256 OF THE DUMP (.gsa) THAT YtcokagabchjilaaProg.lean LOADS. Nothing in Lean hashes anything: it is a label: what it is worth is what the hold of that sum in a sandbox is worth. -/
noncomputable def Try.pinned : Pinned := { name := "ytcokagabchjilaa", sum := "fd6ba5838e6f02a5186533be332350b827dfe91185c1fe7aee2e537d3407c962", checked := Try.checked }
namespace Rows
def none {H : Type} : Left H := { results := [], args := [] }

/-- 'terrkeep1.ProjCosines': WHATEVER THE INPUT: true; the input reads as it did. -/
def projCosinesSpec : ChangeSpec := { name := "projCosines", fn := fun _ => fun
  | [d1, d2] => { results := [.lit (.bool true)], args := [d1, d2] }
  | _ => none }
def projCosinesRow : OpenClaim := { program := "ytcokagabchjilaa", sum := "fd6ba5838e6f02a5186533be332350b827dfe91185c1fe7aee2e537d3407c962", func := "terrier/terrkeep1.ProjCosines", spec := "projCosines", inPlace := ["math/bits.Add64"], unfollowed := true, recurses := true, named := ["math/bits.divideError", "math/bits.overflowError"], apart := false }
def ProjCosinesSaid : Prop := projCosinesRow.holds Try.pinned (OpenSpec.ofChange projCosinesSpec)

/-- ITS FALSE NEIGHBOUR: 'it returns false'. Refute it at one input. -/
def projCosinesWrong : ChangeSpec := { name := "projCosines", fn := fun _ => fun
  | [d1, d2] => { results := [.lit (.bool false)], args := [d1, d2] }
  | _ => none }
def ProjCosinesWrongFalsely : Prop := projCosinesRow.holds Try.pinned (OpenSpec.ofChange projCosinesWrong)

/-- 'terrlaw1.ProjAngles': WHATEVER THE INPUT: true; the input reads as it did. -/
def projAnglesSpec : ChangeSpec := { name := "projAngles", fn := fun _ => fun
  | [d1, d2] => { results := [.lit (.bool true)], args := [d1, d2] }
  | _ => none }
def projAnglesRow : OpenClaim := { program := "ytcokagabchjilaa", sum := "fd6ba5838e6f02a5186533be332350b827dfe91185c1fe7aee2e537d3407c962", func := "terrier/terrlaw1.ProjAngles", spec := "projAngles", inPlace := ["math/bits.Add64"], unfollowed := true, recurses := true, named := ["math/bits.divideError", "math/bits.overflowError"], apart := false }
def ProjAnglesSaid : Prop := projAnglesRow.holds Try.pinned (OpenSpec.ofChange projAnglesSpec)

/-- ITS FALSE NEIGHBOUR: 'it returns false'. Refute it at one input. -/
def projAnglesWrong : ChangeSpec := { name := "projAngles", fn := fun _ => fun
  | [d1, d2] => { results := [.lit (.bool false)], args := [d1, d2] }
  | _ => none }
def ProjAnglesWrongFalsely : Prop := projAnglesRow.holds Try.pinned (OpenSpec.ofChange projAnglesWrong)

/-- 'terrlaw1.ProjPlaces': WHATEVER THE INPUT: true; the input reads as it did. -/
def projPlacesSpec : ChangeSpec := { name := "projPlaces", fn := fun _ => fun
  | [d1, d2, d3] => { results := [.lit (.bool true)], args := [d1, d2, d3] }
  | _ => none }
def projPlacesRow : OpenClaim := { program := "ytcokagabchjilaa", sum := "fd6ba5838e6f02a5186533be332350b827dfe91185c1fe7aee2e537d3407c962", func := "terrier/terrlaw1.ProjPlaces", spec := "projPlaces", inPlace := ["math/bits.Add64"], unfollowed := true, recurses := true, named := ["math/bits.divideError", "math/bits.overflowError"], apart := false }
def ProjPlacesSaid : Prop := projPlacesRow.holds Try.pinned (OpenSpec.ofChange projPlacesSpec)

/-- ITS FALSE NEIGHBOUR: 'it returns false'. Refute it at one input. -/
def projPlacesWrong : ChangeSpec := { name := "projPlaces", fn := fun _ => fun
  | [d1, d2, d3] => { results := [.lit (.bool false)], args := [d1, d2, d3] }
  | _ => none }
def ProjPlacesWrongFalsely : Prop := projPlacesRow.holds Try.pinned (OpenSpec.ofChange projPlacesWrong)

/-- 'terrkeep1.ProjReturns': WHATEVER THE INPUT: true; the input reads as it did. -/
def projReturnsSpec : ChangeSpec := { name := "projReturns", fn := fun _ => fun
  | [d1, d2, d3, d4, d5] => { results := [.lit (.bool true)], args := [d1, d2, d3, d4, d5] }
  | _ => none }
def projReturnsRow : OpenClaim := { program := "ytcokagabchjilaa", sum := "fd6ba5838e6f02a5186533be332350b827dfe91185c1fe7aee2e537d3407c962", func := "terrier/terrkeep1.ProjReturns", spec := "projReturns", inPlace := ["math/bits.Add64"], unfollowed := true, recurses := true, named := ["math/bits.divideError", "math/bits.overflowError"], apart := false }
def ProjReturnsSaid : Prop := projReturnsRow.holds Try.pinned (OpenSpec.ofChange projReturnsSpec)

/-- ITS FALSE NEIGHBOUR: 'it returns false'. Refute it at one input. -/
def projReturnsWrong : ChangeSpec := { name := "projReturns", fn := fun _ => fun
  | [d1, d2, d3, d4, d5] => { results := [.lit (.bool false)], args := [d1, d2, d3, d4, d5] }
  | _ => none }
def ProjReturnsWrongFalsely : Prop := projReturnsRow.holds Try.pinned (OpenSpec.ofChange projReturnsWrong)

/-- 'terrlaw1.ProjBacks': WHATEVER THE INPUT: true; the input reads as it did. -/
def projBacksSpec : ChangeSpec := { name := "projBacks", fn := fun _ => fun
  | [d1, d2] => { results := [.lit (.bool true)], args := [d1, d2] }
  | _ => none }
def projBacksRow : OpenClaim := { program := "ytcokagabchjilaa", sum := "fd6ba5838e6f02a5186533be332350b827dfe91185c1fe7aee2e537d3407c962", func := "terrier/terrlaw1.ProjBacks", spec := "projBacks", inPlace := ["math/bits.Add64"], unfollowed := true, recurses := true, named := ["math/bits.divideError", "math/bits.overflowError"], apart := false }
def ProjBacksSaid : Prop := projBacksRow.holds Try.pinned (OpenSpec.ofChange projBacksSpec)

/-- ITS FALSE NEIGHBOUR: 'it returns false'. Refute it at one input. -/
def projBacksWrong : ChangeSpec := { name := "projBacks", fn := fun _ => fun
  | [d1, d2] => { results := [.lit (.bool false)], args := [d1, d2] }
  | _ => none }
def ProjBacksWrongFalsely : Prop := projBacksRow.holds Try.pinned (OpenSpec.ofChange projBacksWrong)

/- THE SECOND FORM. 'bulk': how many values and letters a reading holds, each counted each time it is reached (what is shared counts as often as it is met; a slice's spare places count too). A statement '..UptoSaid' is the law's where the arguments, and the package variables that the reading takes, are together of bulk at most 1048576: NARROWER than '..Said'. Prove '..Said' where nothing that the law and all that it calls make is longer than what came in: it says more and counts as full. Else prove '..UptoSaid'. A law counts once. -/
mutual
def uptoBulk {H : Type} : DataW H → Nat
  | .lit (.string bytes) => bytes.length + 1
  | .lit _ => 1
  | .nil => 1
  | .ptr d => uptoBulk d + 1
  | .slice elems spare => uptoBulkAll elems + uptoBulkAll spare + 1
  | .agg parts => uptoBulkAll parts + 1
  | .iface _ d => uptoBulk d + 1
  | .map entries => uptoBulkEntries entries + 1
  | .held _ => 1
def uptoBulkAll {H : Type} : List (DataW H) → Nat
  | [] => 0
  | d :: r => uptoBulk d + uptoBulkAll r
def uptoBulkEntries {H : Type} : List (Lit × DataW H) → Nat
  | [] => 0
  | x :: r => uptoBulkEntry x + uptoBulkEntries r
def uptoBulkEntry {H : Type} : Lit × DataW H → Nat
  | (.string bytes, d) => bytes.length + uptoBulk d + 1
  | (_, d) => uptoBulk d + 1
 end
def uptoSmall : (H : Type) → List (DataW H) → Bool := fun _ ds => decide (uptoBulkAll ds ≤ 1048576)
def OpenSpec.upto (s : _root_.Go.ChangeSpec) : _root_.Go.OpenSpec := { _root_.Go.OpenSpec.ofChange s with cond := some uptoSmall }

/-- 'terrkeep1.ProjCosines', WHERE WHAT IT READS IS OF BULK AT MOST 1048576: true; the input reads as it did. -/
def projCosinesUptoRow : OpenClaim := { program := "ytcokagabchjilaa", sum := "fd6ba5838e6f02a5186533be332350b827dfe91185c1fe7aee2e537d3407c962", func := "terrier/terrkeep1.ProjCosines", spec := "projCosines", inPlace := ["math/bits.Add64"], unfollowed := true, recurses := true, named := ["math/bits.divideError", "math/bits.overflowError"], apart := false, narrowed := true }
def ProjCosinesUptoSaid : Prop := projCosinesUptoRow.holds Try.pinned (OpenSpec.upto projCosinesSpec)

/-- 'terrlaw1.ProjAngles', WHERE WHAT IT READS IS OF BULK AT MOST 1048576: true; the input reads as it did. -/
def projAnglesUptoRow : OpenClaim := { program := "ytcokagabchjilaa", sum := "fd6ba5838e6f02a5186533be332350b827dfe91185c1fe7aee2e537d3407c962", func := "terrier/terrlaw1.ProjAngles", spec := "projAngles", inPlace := ["math/bits.Add64"], unfollowed := true, recurses := true, named := ["math/bits.divideError", "math/bits.overflowError"], apart := false, narrowed := true }
def ProjAnglesUptoSaid : Prop := projAnglesUptoRow.holds Try.pinned (OpenSpec.upto projAnglesSpec)

/-- 'terrlaw1.ProjPlaces', WHERE WHAT IT READS IS OF BULK AT MOST 1048576: true; the input reads as it did. -/
def projPlacesUptoRow : OpenClaim := { program := "ytcokagabchjilaa", sum := "fd6ba5838e6f02a5186533be332350b827dfe91185c1fe7aee2e537d3407c962", func := "terrier/terrlaw1.ProjPlaces", spec := "projPlaces", inPlace := ["math/bits.Add64"], unfollowed := true, recurses := true, named := ["math/bits.divideError", "math/bits.overflowError"], apart := false, narrowed := true }
def ProjPlacesUptoSaid : Prop := projPlacesUptoRow.holds Try.pinned (OpenSpec.upto projPlacesSpec)

/-- 'terrkeep1.ProjReturns', WHERE WHAT IT READS IS OF BULK AT MOST 1048576: true; the input reads as it did. -/
def projReturnsUptoRow : OpenClaim := { program := "ytcokagabchjilaa", sum := "fd6ba5838e6f02a5186533be332350b827dfe91185c1fe7aee2e537d3407c962", func := "terrier/terrkeep1.ProjReturns", spec := "projReturns", inPlace := ["math/bits.Add64"], unfollowed := true, recurses := true, named := ["math/bits.divideError", "math/bits.overflowError"], apart := false, narrowed := true }
def ProjReturnsUptoSaid : Prop := projReturnsUptoRow.holds Try.pinned (OpenSpec.upto projReturnsSpec)

/-- 'terrlaw1.ProjBacks', WHERE WHAT IT READS IS OF BULK AT MOST 1048576: true; the input reads as it did. -/
def projBacksUptoRow : OpenClaim := { program := "ytcokagabchjilaa", sum := "fd6ba5838e6f02a5186533be332350b827dfe91185c1fe7aee2e537d3407c962", func := "terrier/terrlaw1.ProjBacks", spec := "projBacks", inPlace := ["math/bits.Add64"], unfollowed := true, recurses := true, named := ["math/bits.divideError", "math/bits.overflowError"], apart := false, narrowed := true }
def ProjBacksUptoSaid : Prop := projBacksUptoRow.holds Try.pinned (OpenSpec.upto projBacksSpec)

end Rows
end Go.Proofs.Ytcokagabchjilaa
