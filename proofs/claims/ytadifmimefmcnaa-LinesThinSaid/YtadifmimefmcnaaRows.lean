/-
  No cell of these rows narrows 'for every input' (looked for: loops, veiled, ifaces, maps, wideKeys, modest, calm, conditions, laid).
  DERIVED. THE GIVEN ROWS OF THIS SEAT. 9 by the template 'for every input the law returns true; each argument reads behind the call as it read before'; 0 by the template 'total and deterministic' (their statements: YtadifmimefmcnaaTotals.lean).
  GIVEN WITH THE SEED: the statements are not yours to turn. If you find one false, say at which input.
  Laid BY PROGRAM, IN A SANDBOX (cutbox-rows.mjs): the forced cells as the released guide's own fill.sh prints them over the translation 3d0736cf2d1b86c4… (all of the seat's roots in one cut). By AI agents, Wed Nov 11 2026. No macro, syntax, notation, axiom, sorry.
-/
import Derived.Test.YtadifmimefmcnaaChecked
import GoSem.Claim
import GoSem.ClaimJoined
import GoSem.ClaimMapViews
import Derived.JoinedTies
import Derived.KernelRfl
namespace Go.Proofs.Ytadifmimefmcnaa
/- THE CELL 'sum', in the pinned program and in every row, IS THE sha256 OF THE DUMP (.gsa) THAT YtadifmimefmcnaaProg.lean LOADS. Nothing in Lean hashes anything: it is a label: what it is worth is what the hold of that sum in a sandbox is worth. -/
noncomputable def Try.pinned : Pinned := { name := "ytadifmimefmcnaa", sum := "3d0736cf2d1b86c4f2fc37deea2a775cc2c08f07882017263229d7c42b35e00b", checked := Try.checked }
namespace Rows
def none {H : Type} : Left H := { results := [], args := [] }

/-- 'terrkeep1.ThinNear': WHATEVER THE INPUT: true; the input reads as it did. -/
def thinNearSpec : ChangeSpec := { name := "thinNear", fn := fun _ => fun
  | [d1, d2] => { results := [.lit (.bool true)], args := [d1, d2] }
  | _ => none }
def thinNearRow : OpenClaim := { program := "ytadifmimefmcnaa", sum := "3d0736cf2d1b86c4f2fc37deea2a775cc2c08f07882017263229d7c42b35e00b", func := "terrier/terrkeep1.ThinNear", spec := "thinNear", inPlace := ["math/bits.Sub64", "math/bits.Add64"], unfollowed := true, recurses := true, named := ["math/bits.divideError", "math/bits.overflowError"], apart := false }
def ThinNearSaid : Prop := thinNearRow.holds Try.pinned (OpenSpec.ofChange thinNearSpec)

/-- ITS FALSE NEIGHBOUR: 'it returns false'. Refute it at one input. -/
def thinNearWrong : ChangeSpec := { name := "thinNear", fn := fun _ => fun
  | [d1, d2] => { results := [.lit (.bool false)], args := [d1, d2] }
  | _ => none }
def ThinNearWrongFalsely : Prop := thinNearRow.holds Try.pinned (OpenSpec.ofChange thinNearWrong)

/-- 'terrlaw1.ThinKeeps': WHATEVER THE INPUT: true; the input reads as it did. -/
def thinKeepsSpec : ChangeSpec := { name := "thinKeeps", fn := fun _ => fun
  | [d1, d2] => { results := [.lit (.bool true)], args := [d1, d2] }
  | _ => none }
def thinKeepsRow : OpenClaim := { program := "ytadifmimefmcnaa", sum := "3d0736cf2d1b86c4f2fc37deea2a775cc2c08f07882017263229d7c42b35e00b", func := "terrier/terrlaw1.ThinKeeps", spec := "thinKeeps", inPlace := ["math/bits.Sub64", "math/bits.Add64"], unfollowed := true, recurses := true, apart := false }
def ThinKeepsSaid : Prop := thinKeepsRow.holds Try.pinned (OpenSpec.ofChange thinKeepsSpec)

/-- ITS FALSE NEIGHBOUR: 'it returns false'. Refute it at one input. -/
def thinKeepsWrong : ChangeSpec := { name := "thinKeeps", fn := fun _ => fun
  | [d1, d2] => { results := [.lit (.bool false)], args := [d1, d2] }
  | _ => none }
def ThinKeepsWrongFalsely : Prop := thinKeepsRow.holds Try.pinned (OpenSpec.ofChange thinKeepsWrong)

/-- 'terrlaw1.ThinLines': WHATEVER THE INPUT: true; the input reads as it did. -/
def thinLinesSpec : ChangeSpec := { name := "thinLines", fn := fun _ => fun
  | [d1, d2] => { results := [.lit (.bool true)], args := [d1, d2] }
  | _ => none }
def thinLinesRow : OpenClaim := { program := "ytadifmimefmcnaa", sum := "3d0736cf2d1b86c4f2fc37deea2a775cc2c08f07882017263229d7c42b35e00b", func := "terrier/terrlaw1.ThinLines", spec := "thinLines", inPlace := ["math/bits.Sub64", "math/bits.Add64"], recurses := true, apart := false }
def ThinLinesSaid : Prop := thinLinesRow.holds Try.pinned (OpenSpec.ofChange thinLinesSpec)

/-- ITS FALSE NEIGHBOUR: 'it returns false'. Refute it at one input. -/
def thinLinesWrong : ChangeSpec := { name := "thinLines", fn := fun _ => fun
  | [d1, d2] => { results := [.lit (.bool false)], args := [d1, d2] }
  | _ => none }
def ThinLinesWrongFalsely : Prop := thinLinesRow.holds Try.pinned (OpenSpec.ofChange thinLinesWrong)

/-- 'terrkeep1.ThinSafe': WHATEVER THE INPUT: true; the input reads as it did. -/
def thinSafeSpec : ChangeSpec := { name := "thinSafe", fn := fun _ => fun
  | [d1, d2] => { results := [.lit (.bool true)], args := [d1, d2] }
  | _ => none }
def thinSafeRow : OpenClaim := { program := "ytadifmimefmcnaa", sum := "3d0736cf2d1b86c4f2fc37deea2a775cc2c08f07882017263229d7c42b35e00b", func := "terrier/terrkeep1.ThinSafe", spec := "thinSafe", inPlace := ["math/bits.Sub64", "math/bits.Add64"], unfollowed := true, recurses := true, named := ["math/bits.divideError", "math/bits.overflowError"], apart := false }
def ThinSafeSaid : Prop := thinSafeRow.holds Try.pinned (OpenSpec.ofChange thinSafeSpec)

/-- ITS FALSE NEIGHBOUR: 'it returns false'. Refute it at one input. -/
def thinSafeWrong : ChangeSpec := { name := "thinSafe", fn := fun _ => fun
  | [d1, d2] => { results := [.lit (.bool false)], args := [d1, d2] }
  | _ => none }
def ThinSafeWrongFalsely : Prop := thinSafeRow.holds Try.pinned (OpenSpec.ofChange thinSafeWrong)

/-- 'terrkeep1.HullSeen': WHATEVER THE INPUT: true; the input reads as it did. -/
def hullSeenSpec : ChangeSpec := { name := "hullSeen", fn := fun _ => fun
  | [d1, d2] => { results := [.lit (.bool true)], args := [d1, d2] }
  | _ => none }
def hullSeenRow : OpenClaim := { program := "ytadifmimefmcnaa", sum := "3d0736cf2d1b86c4f2fc37deea2a775cc2c08f07882017263229d7c42b35e00b", func := "terrier/terrkeep1.HullSeen", spec := "hullSeen", unfollowed := true, recurses := true, apart := false }
def HullSeenSaid : Prop := hullSeenRow.holds Try.pinned (OpenSpec.ofChange hullSeenSpec)

/-- ITS FALSE NEIGHBOUR: 'it returns false'. Refute it at one input. -/
def hullSeenWrong : ChangeSpec := { name := "hullSeen", fn := fun _ => fun
  | [d1, d2] => { results := [.lit (.bool false)], args := [d1, d2] }
  | _ => none }
def HullSeenWrongFalsely : Prop := hullSeenRow.holds Try.pinned (OpenSpec.ofChange hullSeenWrong)

/-- 'terrkeep1.HullIs': WHATEVER THE INPUT: true; the input reads as it did. -/
def hullIsSpec : ChangeSpec := { name := "hullIs", fn := fun _ => fun
  | [d1, d2] => { results := [.lit (.bool true)], args := [d1, d2] }
  | _ => none }
def hullIsRow : OpenClaim := { program := "ytadifmimefmcnaa", sum := "3d0736cf2d1b86c4f2fc37deea2a775cc2c08f07882017263229d7c42b35e00b", func := "terrier/terrkeep1.HullIs", spec := "hullIs", unfollowed := true, recurses := true, apart := false }
def HullIsSaid : Prop := hullIsRow.holds Try.pinned (OpenSpec.ofChange hullIsSpec)

/-- ITS FALSE NEIGHBOUR: 'it returns false'. Refute it at one input. -/
def hullIsWrong : ChangeSpec := { name := "hullIs", fn := fun _ => fun
  | [d1, d2] => { results := [.lit (.bool false)], args := [d1, d2] }
  | _ => none }
def HullIsWrongFalsely : Prop := hullIsRow.holds Try.pinned (OpenSpec.ofChange hullIsWrong)

/-- 'terrlaw1.HullTells': WHATEVER THE INPUT: true; the input reads as it did. -/
def hullTellsSpec : ChangeSpec := { name := "hullTells", fn := fun _ => fun
  | [d1, d2] => { results := [.lit (.bool true)], args := [d1, d2] }
  | _ => none }
def hullTellsRow : OpenClaim := { program := "ytadifmimefmcnaa", sum := "3d0736cf2d1b86c4f2fc37deea2a775cc2c08f07882017263229d7c42b35e00b", func := "terrier/terrlaw1.HullTells", spec := "hullTells", unfollowed := true, recurses := true, apart := false }
def HullTellsSaid : Prop := hullTellsRow.holds Try.pinned (OpenSpec.ofChange hullTellsSpec)

/-- ITS FALSE NEIGHBOUR: 'it returns false'. Refute it at one input. -/
def hullTellsWrong : ChangeSpec := { name := "hullTells", fn := fun _ => fun
  | [d1, d2] => { results := [.lit (.bool false)], args := [d1, d2] }
  | _ => none }
def HullTellsWrongFalsely : Prop := hullTellsRow.holds Try.pinned (OpenSpec.ofChange hullTellsWrong)

/-- 'terrlaw1.HullSees': WHATEVER THE INPUT: true; the input reads as it did. -/
def hullSeesSpec : ChangeSpec := { name := "hullSees", fn := fun _ => fun
  | [d1, d2] => { results := [.lit (.bool true)], args := [d1, d2] }
  | _ => none }
def hullSeesRow : OpenClaim := { program := "ytadifmimefmcnaa", sum := "3d0736cf2d1b86c4f2fc37deea2a775cc2c08f07882017263229d7c42b35e00b", func := "terrier/terrlaw1.HullSees", spec := "hullSees", unfollowed := true, recurses := true, apart := false }
def HullSeesSaid : Prop := hullSeesRow.holds Try.pinned (OpenSpec.ofChange hullSeesSpec)

/-- ITS FALSE NEIGHBOUR: 'it returns false'. Refute it at one input. -/
def hullSeesWrong : ChangeSpec := { name := "hullSees", fn := fun _ => fun
  | [d1, d2] => { results := [.lit (.bool false)], args := [d1, d2] }
  | _ => none }
def HullSeesWrongFalsely : Prop := hullSeesRow.holds Try.pinned (OpenSpec.ofChange hullSeesWrong)

/-- 'terrtop.LinesThin': WHATEVER THE INPUT: true; the input reads as it did. -/
def linesThinSpec : ChangeSpec := { name := "linesThin", fn := fun _ => fun
  | [d1, d2] => { results := [.lit (.bool true)], args := [d1, d2] }
  | _ => none }
def linesThinRow : OpenClaim := { program := "ytadifmimefmcnaa", sum := "3d0736cf2d1b86c4f2fc37deea2a775cc2c08f07882017263229d7c42b35e00b", func := "terrier/terrtop.LinesThin", spec := "linesThin", inPlace := ["math/bits.Add64", "math/bits.Sub64"], unfollowed := true, recurses := true, named := ["math/bits.divideError", "math/bits.overflowError"], apart := false }
def LinesThinSaid : Prop := linesThinRow.holds Try.pinned (OpenSpec.ofChange linesThinSpec)

/-- ITS FALSE NEIGHBOUR: 'it returns false'. Refute it at one input. -/
def linesThinWrong : ChangeSpec := { name := "linesThin", fn := fun _ => fun
  | [d1, d2] => { results := [.lit (.bool false)], args := [d1, d2] }
  | _ => none }
def LinesThinWrongFalsely : Prop := linesThinRow.holds Try.pinned (OpenSpec.ofChange linesThinWrong)

/- THE SECOND FORM. 'bulk': how many values and letters a reading holds, each counted each time it is reached (what is shared counts as often as it is met; a slice's spare places count too). A statement '..UptoSaid' is the law's where the arguments, and the package variables that the reading takes, are together of bulk at most 1048576: NARROWER than '..Said'. Prove '..Said' where nothing that the law and all that it calls make is longer than what came in: it says more and counts as full. Else prove '..UptoSaid'. A law counts once. -/
mutual
def uptoBulk {H : Type} : DataW H → Nat
  | .lit (.string bytes) => bytes.length + 1
  | .lit _ => 1
  | .nil => 1
  | .ptr d => uptoBulk d + 1
  | .slice elems spare => uptoBulkAll elems + uptoBulkAll spare + 1
  | .agg parts => uptoBulkAll parts + 1
  | .iface _ d => uptoBulk d + 1
  | .map entries => uptoBulkEntries entries + 1
  | .held _ => 1
def uptoBulkAll {H : Type} : List (DataW H) → Nat
  | [] => 0
  | d :: r => uptoBulk d + uptoBulkAll r
def uptoBulkEntries {H : Type} : List (Lit × DataW H) → Nat
  | [] => 0
  | x :: r => uptoBulkEntry x + uptoBulkEntries r
def uptoBulkEntry {H : Type} : Lit × DataW H → Nat
  | (.string bytes, d) => bytes.length + uptoBulk d + 1
  | (_, d) => uptoBulk d + 1
 end
def uptoSmall : (H : Type) → List (DataW H) → Bool := fun _ ds => decide (uptoBulkAll ds ≤ 1048576)
def OpenSpec.upto (s : _root_.Go.ChangeSpec) : _root_.Go.OpenSpec := { _root_.Go.OpenSpec.ofChange s with cond := some uptoSmall }

/-- 'terrkeep1.ThinNear', WHERE WHAT IT READS IS OF BULK AT MOST 1048576: true; the input reads as it did. -/
def thinNearUptoRow : OpenClaim := { program := "ytadifmimefmcnaa", sum := "3d0736cf2d1b86c4f2fc37deea2a775cc2c08f07882017263229d7c42b35e00b", func := "terrier/terrkeep1.ThinNear", spec := "thinNear", inPlace := ["math/bits.Sub64", "math/bits.Add64"], unfollowed := true, recurses := true, named := ["math/bits.divideError", "math/bits.overflowError"], apart := false, narrowed := true }
def ThinNearUptoSaid : Prop := thinNearUptoRow.holds Try.pinned (OpenSpec.upto thinNearSpec)

/-- 'terrlaw1.ThinKeeps', WHERE WHAT IT READS IS OF BULK AT MOST 1048576: true; the input reads as it did. -/
def thinKeepsUptoRow : OpenClaim := { program := "ytadifmimefmcnaa", sum := "3d0736cf2d1b86c4f2fc37deea2a775cc2c08f07882017263229d7c42b35e00b", func := "terrier/terrlaw1.ThinKeeps", spec := "thinKeeps", inPlace := ["math/bits.Sub64", "math/bits.Add64"], unfollowed := true, recurses := true, apart := false, narrowed := true }
def ThinKeepsUptoSaid : Prop := thinKeepsUptoRow.holds Try.pinned (OpenSpec.upto thinKeepsSpec)

/-- 'terrlaw1.ThinLines', WHERE WHAT IT READS IS OF BULK AT MOST 1048576: true; the input reads as it did. -/
def thinLinesUptoRow : OpenClaim := { program := "ytadifmimefmcnaa", sum := "3d0736cf2d1b86c4f2fc37deea2a775cc2c08f07882017263229d7c42b35e00b", func := "terrier/terrlaw1.ThinLines", spec := "thinLines", inPlace := ["math/bits.Sub64", "math/bits.Add64"], recurses := true, apart := false, narrowed := true }
def ThinLinesUptoSaid : Prop := thinLinesUptoRow.holds Try.pinned (OpenSpec.upto thinLinesSpec)

/-- 'terrkeep1.ThinSafe', WHERE WHAT IT READS IS OF BULK AT MOST 1048576: true; the input reads as it did. -/
def thinSafeUptoRow : OpenClaim := { program := "ytadifmimefmcnaa", sum := "3d0736cf2d1b86c4f2fc37deea2a775cc2c08f07882017263229d7c42b35e00b", func := "terrier/terrkeep1.ThinSafe", spec := "thinSafe", inPlace := ["math/bits.Sub64", "math/bits.Add64"], unfollowed := true, recurses := true, named := ["math/bits.divideError", "math/bits.overflowError"], apart := false, narrowed := true }
def ThinSafeUptoSaid : Prop := thinSafeUptoRow.holds Try.pinned (OpenSpec.upto thinSafeSpec)

/-- 'terrkeep1.HullSeen', WHERE WHAT IT READS IS OF BULK AT MOST 1048576: true; the input reads as it did. -/
def hullSeenUptoRow : OpenClaim := { program := "ytadifmimefmcnaa", sum := "3d0736cf2d1b86c4f2fc37deea2a775cc2c08f07882017263229d7c42b35e00b", func := "terrier/terrkeep1.HullSeen", spec := "hullSeen", unfollowed := true, recurses := true, apart := false, narrowed := true }
def HullSeenUptoSaid : Prop := hullSeenUptoRow.holds Try.pinned (OpenSpec.upto hullSeenSpec)

/-- 'terrkeep1.HullIs', WHERE WHAT IT READS IS OF BULK AT MOST 1048576: true; the input reads as it did. -/
def hullIsUptoRow : OpenClaim := { program := "ytadifmimefmcnaa", sum := "3d0736cf2d1b86c4f2fc37deea2a775cc2c08f07882017263229d7c42b35e00b", func := "terrier/terrkeep1.HullIs", spec := "hullIs", unfollowed := true, recurses := true, apart := false, narrowed := true }
def HullIsUptoSaid : Prop := hullIsUptoRow.holds Try.pinned (OpenSpec.upto hullIsSpec)

/-- 'terrlaw1.HullTells', WHERE WHAT IT READS IS OF BULK AT MOST 1048576: true; the input reads as it did. -/
def hullTellsUptoRow : OpenClaim := { program := "ytadifmimefmcnaa", sum := "3d0736cf2d1b86c4f2fc37deea2a775cc2c08f07882017263229d7c42b35e00b", func := "terrier/terrlaw1.HullTells", spec := "hullTells", unfollowed := true, recurses := true, apart := false, narrowed := true }
def HullTellsUptoSaid : Prop := hullTellsUptoRow.holds Try.pinned (OpenSpec.upto hullTellsSpec)

/-- 'terrlaw1.HullSees', WHERE WHAT IT READS IS OF BULK AT MOST 1048576: true; the input reads as it did. -/
def hullSeesUptoRow : OpenClaim := { program := "ytadifmimefmcnaa", sum := "3d0736cf2d1b86c4f2fc37deea2a775cc2c08f07882017263229d7c42b35e00b", func := "terrier/terrlaw1.HullSees", spec := "hullSees", unfollowed := true, recurses := true, apart := false, narrowed := true }
def HullSeesUptoSaid : Prop := hullSeesUptoRow.holds Try.pinned (OpenSpec.upto hullSeesSpec)

/-- 'terrtop.LinesThin', WHERE WHAT IT READS IS OF BULK AT MOST 1048576: true; the input reads as it did. -/
def linesThinUptoRow : OpenClaim := { program := "ytadifmimefmcnaa", sum := "3d0736cf2d1b86c4f2fc37deea2a775cc2c08f07882017263229d7c42b35e00b", func := "terrier/terrtop.LinesThin", spec := "linesThin", inPlace := ["math/bits.Add64", "math/bits.Sub64"], unfollowed := true, recurses := true, named := ["math/bits.divideError", "math/bits.overflowError"], apart := false, narrowed := true }
def LinesThinUptoSaid : Prop := linesThinUptoRow.holds Try.pinned (OpenSpec.upto linesThinSpec)

end Rows
end Go.Proofs.Ytadifmimefmcnaa
