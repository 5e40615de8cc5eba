/-
  No cell of these rows narrows 'for every input' (looked for: loops, veiled, ifaces, maps, wideKeys, modest, calm, conditions, laid).
  DERIVED. THE GIVEN ROWS OF THIS SEAT. 12 by the template 'for every input the law returns true; each argument reads behind the call as it read before'; 0 by the template 'total and deterministic' (their statements: YtigllakcfdoagaaTotals.lean).
  GIVEN WITH THE SEED: the statements are not yours to turn. If you find one false, say at which input.
  Laid BY PROGRAM, IN A SANDBOX (cutbox-rows.mjs): the forced cells as the released guide's own fill.sh prints them over the translation 8ad8950a7c2512cc… (all of the seat's roots in one cut). By AI agents, Wed Nov 11 2026. No macro, syntax, notation, axiom, sorry.
-/
import Derived.Test.YtigllakcfdoagaaChecked
import GoSem.Claim
import GoSem.ClaimJoined
import GoSem.ClaimMapViews
import Derived.JoinedTies
import Derived.KernelRfl
namespace Go.Proofs.Ytigllakcfdoagaa
/- THE CELL 'sum', in the pinned program and in every row, IS THE sha256 OF THE DUMP (.gsa) THAT YtigllakcfdoagaaProg.lean LOADS. Nothing in Lean hashes anything: it is a label: what it is worth is what the hold of that sum in a sandbox is worth. -/
noncomputable def Try.pinned : Pinned := { name := "ytigllakcfdoagaa", sum := "8ad8950a7c2512cc73b8fbc1bb5a6c1e864083cfe3d0a0a9625af9af5fedfcc3", checked := Try.checked }
namespace Rows
def none {H : Type} : Left H := { results := [], args := [] }

/-- 'terrkeep1.SegSame': WHATEVER THE INPUT: true; the input reads as it did. -/
def segSameSpec : ChangeSpec := { name := "segSame", fn := fun _ => fun
  | [d1, d2, d3, d4] => { results := [.lit (.bool true)], args := [d1, d2, d3, d4] }
  | _ => none }
def segSameRow : OpenClaim := { program := "ytigllakcfdoagaa", sum := "8ad8950a7c2512cc73b8fbc1bb5a6c1e864083cfe3d0a0a9625af9af5fedfcc3", func := "terrier/terrkeep1.SegSame", spec := "segSame", inPlace := ["math/bits.Add64"], unfollowed := true, recurses := true, named := ["math/bits.divideError", "math/bits.overflowError"], apart := false }
def SegSameSaid : Prop := segSameRow.holds Try.pinned (OpenSpec.ofChange segSameSpec)

/-- ITS FALSE NEIGHBOUR: 'it returns false'. Refute it at one input. -/
def segSameWrong : ChangeSpec := { name := "segSame", fn := fun _ => fun
  | [d1, d2, d3, d4] => { results := [.lit (.bool false)], args := [d1, d2, d3, d4] }
  | _ => none }
def SegSameWrongFalsely : Prop := segSameRow.holds Try.pinned (OpenSpec.ofChange segSameWrong)

/-- 'terrlaw1.SegMeets': WHATEVER THE INPUT: true; the input reads as it did. -/
def segMeetsSpec : ChangeSpec := { name := "segMeets", fn := fun _ => fun
  | [d1, d2, d3, d4] => { results := [.lit (.bool true)], args := [d1, d2, d3, d4] }
  | _ => none }
def segMeetsRow : OpenClaim := { program := "ytigllakcfdoagaa", sum := "8ad8950a7c2512cc73b8fbc1bb5a6c1e864083cfe3d0a0a9625af9af5fedfcc3", func := "terrier/terrlaw1.SegMeets", spec := "segMeets", inPlace := ["math/bits.Add64"], unfollowed := true, recurses := true, named := ["math/bits.divideError", "math/bits.overflowError"], apart := false }
def SegMeetsSaid : Prop := segMeetsRow.holds Try.pinned (OpenSpec.ofChange segMeetsSpec)

/-- ITS FALSE NEIGHBOUR: 'it returns false'. Refute it at one input. -/
def segMeetsWrong : ChangeSpec := { name := "segMeets", fn := fun _ => fun
  | [d1, d2, d3, d4] => { results := [.lit (.bool false)], args := [d1, d2, d3, d4] }
  | _ => none }
def SegMeetsWrongFalsely : Prop := segMeetsRow.holds Try.pinned (OpenSpec.ofChange segMeetsWrong)

/-- 'terrlaw1.SegSnaps': WHATEVER THE INPUT: true; the input reads as it did. -/
def segSnapsSpec : ChangeSpec := { name := "segSnaps", fn := fun _ => fun
  | [d] => { results := [.lit (.bool true)], args := [d] }
  | _ => none }
def segSnapsRow : OpenClaim := { program := "ytigllakcfdoagaa", sum := "8ad8950a7c2512cc73b8fbc1bb5a6c1e864083cfe3d0a0a9625af9af5fedfcc3", func := "terrier/terrlaw1.SegSnaps", spec := "segSnaps", inPlace := ["math/bits.Add64"], unfollowed := true, recurses := true, named := ["math/bits.divideError", "math/bits.overflowError"], apart := false }
def SegSnapsSaid : Prop := segSnapsRow.holds Try.pinned (OpenSpec.ofChange segSnapsSpec)

/-- ITS FALSE NEIGHBOUR: 'it returns false'. Refute it at one input. -/
def segSnapsWrong : ChangeSpec := { name := "segSnaps", fn := fun _ => fun
  | [d] => { results := [.lit (.bool false)], args := [d] }
  | _ => none }
def SegSnapsWrongFalsely : Prop := segSnapsRow.holds Try.pinned (OpenSpec.ofChange segSnapsWrong)

/-- 'terrlaw1.SegFar': WHATEVER THE INPUT: true; the input reads as it did. -/
def segFarSpec : ChangeSpec := { name := "segFar", fn := fun _ => fun
  | [d1, d2, d3, d4] => { results := [.lit (.bool true)], args := [d1, d2, d3, d4] }
  | _ => none }
def segFarRow : OpenClaim := { program := "ytigllakcfdoagaa", sum := "8ad8950a7c2512cc73b8fbc1bb5a6c1e864083cfe3d0a0a9625af9af5fedfcc3", func := "terrier/terrlaw1.SegFar", spec := "segFar", inPlace := ["math/bits.Add64"], unfollowed := true, recurses := true, named := ["math/bits.divideError", "math/bits.overflowError"], apart := false }
def SegFarSaid : Prop := segFarRow.holds Try.pinned (OpenSpec.ofChange segFarSpec)

/-- ITS FALSE NEIGHBOUR: 'it returns false'. Refute it at one input. -/
def segFarWrong : ChangeSpec := { name := "segFar", fn := fun _ => fun
  | [d1, d2, d3, d4] => { results := [.lit (.bool false)], args := [d1, d2, d3, d4] }
  | _ => none }
def SegFarWrongFalsely : Prop := segFarRow.holds Try.pinned (OpenSpec.ofChange segFarWrong)

/-- 'terrkeep1.SegCrosses': WHATEVER THE INPUT: true; the input reads as it did. -/
def segCrossesSpec : ChangeSpec := { name := "segCrosses", fn := fun _ => fun
  | [d1, d2, d3, d4] => { results := [.lit (.bool true)], args := [d1, d2, d3, d4] }
  | _ => none }
def segCrossesRow : OpenClaim := { program := "ytigllakcfdoagaa", sum := "8ad8950a7c2512cc73b8fbc1bb5a6c1e864083cfe3d0a0a9625af9af5fedfcc3", func := "terrier/terrkeep1.SegCrosses", spec := "segCrosses", inPlace := ["math/bits.Add64"], unfollowed := true, recurses := true, named := ["math/bits.divideError", "math/bits.overflowError"], apart := false }
def SegCrossesSaid : Prop := segCrossesRow.holds Try.pinned (OpenSpec.ofChange segCrossesSpec)

/-- ITS FALSE NEIGHBOUR: 'it returns false'. Refute it at one input. -/
def segCrossesWrong : ChangeSpec := { name := "segCrosses", fn := fun _ => fun
  | [d1, d2, d3, d4] => { results := [.lit (.bool false)], args := [d1, d2, d3, d4] }
  | _ => none }
def SegCrossesWrongFalsely : Prop := segCrossesRow.holds Try.pinned (OpenSpec.ofChange segCrossesWrong)

/-- 'terrkeep1.SegNear': WHATEVER THE INPUT: true; the input reads as it did. -/
def segNearSpec : ChangeSpec := { name := "segNear", fn := fun _ => fun
  | [d1, d2, d3, d4] => { results := [.lit (.bool true)], args := [d1, d2, d3, d4] }
  | _ => none }
def segNearRow : OpenClaim := { program := "ytigllakcfdoagaa", sum := "8ad8950a7c2512cc73b8fbc1bb5a6c1e864083cfe3d0a0a9625af9af5fedfcc3", func := "terrier/terrkeep1.SegNear", spec := "segNear", inPlace := ["math/bits.Add64", "math/bits.Sub64"], unfollowed := true, recurses := true, named := ["math/bits.divideError", "math/bits.overflowError"], apart := false }
def SegNearSaid : Prop := segNearRow.holds Try.pinned (OpenSpec.ofChange segNearSpec)

/-- ITS FALSE NEIGHBOUR: 'it returns false'. Refute it at one input. -/
def segNearWrong : ChangeSpec := { name := "segNear", fn := fun _ => fun
  | [d1, d2, d3, d4] => { results := [.lit (.bool false)], args := [d1, d2, d3, d4] }
  | _ => none }
def SegNearWrongFalsely : Prop := segNearRow.holds Try.pinned (OpenSpec.ofChange segNearWrong)

/-- 'terrlaw1.RingTells': WHATEVER THE INPUT: true; the input reads as it did. -/
def ringTellsSpec : ChangeSpec := { name := "ringTells", fn := fun _ => fun
  | [d1, d2] => { results := [.lit (.bool true)], args := [d1, d2] }
  | _ => none }
def ringTellsRow : OpenClaim := { program := "ytigllakcfdoagaa", sum := "8ad8950a7c2512cc73b8fbc1bb5a6c1e864083cfe3d0a0a9625af9af5fedfcc3", func := "terrier/terrlaw1.RingTells", spec := "ringTells", unfollowed := true, recurses := true, apart := false }
def RingTellsSaid : Prop := ringTellsRow.holds Try.pinned (OpenSpec.ofChange ringTellsSpec)

/-- ITS FALSE NEIGHBOUR: 'it returns false'. Refute it at one input. -/
def ringTellsWrong : ChangeSpec := { name := "ringTells", fn := fun _ => fun
  | [d1, d2] => { results := [.lit (.bool false)], args := [d1, d2] }
  | _ => none }
def RingTellsWrongFalsely : Prop := ringTellsRow.holds Try.pinned (OpenSpec.ofChange ringTellsWrong)

/-- 'terrkeep1.RingMoves': WHATEVER THE INPUT: true; the input reads as it did. -/
def ringMovesSpec : ChangeSpec := { name := "ringMoves", fn := fun _ => fun
  | [d1, d2, d3] => { results := [.lit (.bool true)], args := [d1, d2, d3] }
  | _ => none }
def ringMovesRow : OpenClaim := { program := "ytigllakcfdoagaa", sum := "8ad8950a7c2512cc73b8fbc1bb5a6c1e864083cfe3d0a0a9625af9af5fedfcc3", func := "terrier/terrkeep1.RingMoves", spec := "ringMoves", inPlace := ["math/bits.Add64"], unfollowed := true, recurses := true, named := ["math/bits.divideError", "math/bits.overflowError"], apart := false }
def RingMovesSaid : Prop := ringMovesRow.holds Try.pinned (OpenSpec.ofChange ringMovesSpec)

/-- ITS FALSE NEIGHBOUR: 'it returns false'. Refute it at one input. -/
def ringMovesWrong : ChangeSpec := { name := "ringMoves", fn := fun _ => fun
  | [d1, d2, d3] => { results := [.lit (.bool false)], args := [d1, d2, d3] }
  | _ => none }
def RingMovesWrongFalsely : Prop := ringMovesRow.holds Try.pinned (OpenSpec.ofChange ringMovesWrong)

/-- 'terrkeep1.RingPick': WHATEVER THE INPUT: true; the input reads as it did. -/
def ringPickSpec : ChangeSpec := { name := "ringPick", fn := fun _ => fun
  | [d] => { results := [.lit (.bool true)], args := [d] }
  | _ => none }
def ringPickRow : OpenClaim := { program := "ytigllakcfdoagaa", sum := "8ad8950a7c2512cc73b8fbc1bb5a6c1e864083cfe3d0a0a9625af9af5fedfcc3", func := "terrier/terrkeep1.RingPick", spec := "ringPick", inPlace := ["math/bits.Add64"], unfollowed := true, recurses := true, named := ["math/bits.divideError", "math/bits.overflowError"], apart := false }
def RingPickSaid : Prop := ringPickRow.holds Try.pinned (OpenSpec.ofChange ringPickSpec)

/-- ITS FALSE NEIGHBOUR: 'it returns false'. Refute it at one input. -/
def ringPickWrong : ChangeSpec := { name := "ringPick", fn := fun _ => fun
  | [d] => { results := [.lit (.bool false)], args := [d] }
  | _ => none }
def RingPickWrongFalsely : Prop := ringPickRow.holds Try.pinned (OpenSpec.ofChange ringPickWrong)

/-- 'terrkeep1.RingNorms': WHATEVER THE INPUT: true; the input reads as it did. -/
def ringNormsSpec : ChangeSpec := { name := "ringNorms", fn := fun _ => fun
  | [d1, d2] => { results := [.lit (.bool true)], args := [d1, d2] }
  | _ => none }
def ringNormsRow : OpenClaim := { program := "ytigllakcfdoagaa", sum := "8ad8950a7c2512cc73b8fbc1bb5a6c1e864083cfe3d0a0a9625af9af5fedfcc3", func := "terrier/terrkeep1.RingNorms", spec := "ringNorms", inPlace := ["math/bits.Add64"], unfollowed := true, recurses := true, named := ["math/bits.divideError", "math/bits.overflowError"], apart := false }
def RingNormsSaid : Prop := ringNormsRow.holds Try.pinned (OpenSpec.ofChange ringNormsSpec)

/-- ITS FALSE NEIGHBOUR: 'it returns false'. Refute it at one input. -/
def ringNormsWrong : ChangeSpec := { name := "ringNorms", fn := fun _ => fun
  | [d1, d2] => { results := [.lit (.bool false)], args := [d1, d2] }
  | _ => none }
def RingNormsWrongFalsely : Prop := ringNormsRow.holds Try.pinned (OpenSpec.ofChange ringNormsWrong)

/-- 'terrtop.CrossingsLie': WHATEVER THE INPUT: true; the input reads as it did. -/
def crossingsLieSpec : ChangeSpec := { name := "crossingsLie", fn := fun _ => fun
  | [d1, d2] => { results := [.lit (.bool true)], args := [d1, d2] }
  | _ => none }
def crossingsLieRow : OpenClaim := { program := "ytigllakcfdoagaa", sum := "8ad8950a7c2512cc73b8fbc1bb5a6c1e864083cfe3d0a0a9625af9af5fedfcc3", func := "terrier/terrtop.CrossingsLie", spec := "crossingsLie", inPlace := ["math/bits.Add64", "math/bits.Sub64"], unfollowed := true, recurses := true, named := ["math/bits.divideError", "math/bits.overflowError"], apart := false }
def CrossingsLieSaid : Prop := crossingsLieRow.holds Try.pinned (OpenSpec.ofChange crossingsLieSpec)

/-- ITS FALSE NEIGHBOUR: 'it returns false'. Refute it at one input. -/
def crossingsLieWrong : ChangeSpec := { name := "crossingsLie", fn := fun _ => fun
  | [d1, d2] => { results := [.lit (.bool false)], args := [d1, d2] }
  | _ => none }
def CrossingsLieWrongFalsely : Prop := crossingsLieRow.holds Try.pinned (OpenSpec.ofChange crossingsLieWrong)

/-- 'terrlaw1.BoxHits': WHATEVER THE INPUT: true; the input reads as it did. -/
def boxHitsSpec : ChangeSpec := { name := "boxHits", fn := fun _ => fun
  | [d1, d2, d3] => { results := [.lit (.bool true)], args := [d1, d2, d3] }
  | _ => none }
def boxHitsRow : OpenClaim := { program := "ytigllakcfdoagaa", sum := "8ad8950a7c2512cc73b8fbc1bb5a6c1e864083cfe3d0a0a9625af9af5fedfcc3", func := "terrier/terrlaw1.BoxHits", spec := "boxHits", apart := false }
def BoxHitsSaid : Prop := boxHitsRow.holds Try.pinned (OpenSpec.ofChange boxHitsSpec)

/-- ITS FALSE NEIGHBOUR: 'it returns false'. Refute it at one input. -/
def boxHitsWrong : ChangeSpec := { name := "boxHits", fn := fun _ => fun
  | [d1, d2, d3] => { results := [.lit (.bool false)], args := [d1, d2, d3] }
  | _ => none }
def BoxHitsWrongFalsely : Prop := boxHitsRow.holds Try.pinned (OpenSpec.ofChange boxHitsWrong)

/- THE SECOND FORM. 'bulk': how many values and letters a reading holds, each counted each time it is reached (what is shared counts as often as it is met; a slice's spare places count too). A statement '..UptoSaid' is the law's where the arguments, and the package variables that the reading takes, are together of bulk at most 1048576: NARROWER than '..Said'. Prove '..Said' where nothing that the law and all that it calls make is longer than what came in: it says more and counts as full. Else prove '..UptoSaid'. A law counts once. -/
mutual
def uptoBulk {H : Type} : DataW H → Nat
  | .lit (.string bytes) => bytes.length + 1
  | .lit _ => 1
  | .nil => 1
  | .ptr d => uptoBulk d + 1
  | .slice elems spare => uptoBulkAll elems + uptoBulkAll spare + 1
  | .agg parts => uptoBulkAll parts + 1
  | .iface _ d => uptoBulk d + 1
  | .map entries => uptoBulkEntries entries + 1
  | .held _ => 1
def uptoBulkAll {H : Type} : List (DataW H) → Nat
  | [] => 0
  | d :: r => uptoBulk d + uptoBulkAll r
def uptoBulkEntries {H : Type} : List (Lit × DataW H) → Nat
  | [] => 0
  | x :: r => uptoBulkEntry x + uptoBulkEntries r
def uptoBulkEntry {H : Type} : Lit × DataW H → Nat
  | (.string bytes, d) => bytes.length + uptoBulk d + 1
  | (_, d) => uptoBulk d + 1
 end
def uptoSmall : (H : Type) → List (DataW H) → Bool := fun _ ds => decide (uptoBulkAll ds ≤ 1048576)
def OpenSpec.upto (s : _root_.Go.ChangeSpec) : _root_.Go.OpenSpec := { _root_.Go.OpenSpec.ofChange s with cond := some uptoSmall }

/-- 'terrkeep1.SegSame', WHERE WHAT IT READS IS OF BULK AT MOST 1048576: true; the input reads as it did. -/
def segSameUptoRow : OpenClaim := { program := "ytigllakcfdoagaa", sum := "8ad8950a7c2512cc73b8fbc1bb5a6c1e864083cfe3d0a0a9625af9af5fedfcc3", func := "terrier/terrkeep1.SegSame", spec := "segSame", inPlace := ["math/bits.Add64"], unfollowed := true, recurses := true, named := ["math/bits.divideError", "math/bits.overflowError"], apart := false, narrowed := true }
def SegSameUptoSaid : Prop := segSameUptoRow.holds Try.pinned (OpenSpec.upto segSameSpec)

/-- 'terrlaw1.SegMeets', WHERE WHAT IT READS IS OF BULK AT MOST 1048576: true; the input reads as it did. -/
def segMeetsUptoRow : OpenClaim := { program := "ytigllakcfdoagaa", sum := "8ad8950a7c2512cc73b8fbc1bb5a6c1e864083cfe3d0a0a9625af9af5fedfcc3", func := "terrier/terrlaw1.SegMeets", spec := "segMeets", inPlace := ["math/bits.Add64"], unfollowed := true, recurses := true, named := ["math/bits.divideError", "math/bits.overflowError"], apart := false, narrowed := true }
def SegMeetsUptoSaid : Prop := segMeetsUptoRow.holds Try.pinned (OpenSpec.upto segMeetsSpec)

/-- 'terrlaw1.SegSnaps', WHERE WHAT IT READS IS OF BULK AT MOST 1048576: true; the input reads as it did. -/
def segSnapsUptoRow : OpenClaim := { program := "ytigllakcfdoagaa", sum := "8ad8950a7c2512cc73b8fbc1bb5a6c1e864083cfe3d0a0a9625af9af5fedfcc3", func := "terrier/terrlaw1.SegSnaps", spec := "segSnaps", inPlace := ["math/bits.Add64"], unfollowed := true, recurses := true, named := ["math/bits.divideError", "math/bits.overflowError"], apart := false, narrowed := true }
def SegSnapsUptoSaid : Prop := segSnapsUptoRow.holds Try.pinned (OpenSpec.upto segSnapsSpec)

/-- 'terrlaw1.SegFar', WHERE WHAT IT READS IS OF BULK AT MOST 1048576: true; the input reads as it did. -/
def segFarUptoRow : OpenClaim := { program := "ytigllakcfdoagaa", sum := "8ad8950a7c2512cc73b8fbc1bb5a6c1e864083cfe3d0a0a9625af9af5fedfcc3", func := "terrier/terrlaw1.SegFar", spec := "segFar", inPlace := ["math/bits.Add64"], unfollowed := true, recurses := true, named := ["math/bits.divideError", "math/bits.overflowError"], apart := false, narrowed := true }
def SegFarUptoSaid : Prop := segFarUptoRow.holds Try.pinned (OpenSpec.upto segFarSpec)

/-- 'terrkeep1.SegCrosses', WHERE WHAT IT READS IS OF BULK AT MOST 1048576: true; the input reads as it did. -/
def segCrossesUptoRow : OpenClaim := { program := "ytigllakcfdoagaa", sum := "8ad8950a7c2512cc73b8fbc1bb5a6c1e864083cfe3d0a0a9625af9af5fedfcc3", func := "terrier/terrkeep1.SegCrosses", spec := "segCrosses", inPlace := ["math/bits.Add64"], unfollowed := true, recurses := true, named := ["math/bits.divideError", "math/bits.overflowError"], apart := false, narrowed := true }
def SegCrossesUptoSaid : Prop := segCrossesUptoRow.holds Try.pinned (OpenSpec.upto segCrossesSpec)

/-- 'terrkeep1.SegNear', WHERE WHAT IT READS IS OF BULK AT MOST 1048576: true; the input reads as it did. -/
def segNearUptoRow : OpenClaim := { program := "ytigllakcfdoagaa", sum := "8ad8950a7c2512cc73b8fbc1bb5a6c1e864083cfe3d0a0a9625af9af5fedfcc3", func := "terrier/terrkeep1.SegNear", spec := "segNear", inPlace := ["math/bits.Add64", "math/bits.Sub64"], unfollowed := true, recurses := true, named := ["math/bits.divideError", "math/bits.overflowError"], apart := false, narrowed := true }
def SegNearUptoSaid : Prop := segNearUptoRow.holds Try.pinned (OpenSpec.upto segNearSpec)

/-- 'terrlaw1.RingTells', WHERE WHAT IT READS IS OF BULK AT MOST 1048576: true; the input reads as it did. -/
def ringTellsUptoRow : OpenClaim := { program := "ytigllakcfdoagaa", sum := "8ad8950a7c2512cc73b8fbc1bb5a6c1e864083cfe3d0a0a9625af9af5fedfcc3", func := "terrier/terrlaw1.RingTells", spec := "ringTells", unfollowed := true, recurses := true, apart := false, narrowed := true }
def RingTellsUptoSaid : Prop := ringTellsUptoRow.holds Try.pinned (OpenSpec.upto ringTellsSpec)

/-- 'terrkeep1.RingMoves', WHERE WHAT IT READS IS OF BULK AT MOST 1048576: true; the input reads as it did. -/
def ringMovesUptoRow : OpenClaim := { program := "ytigllakcfdoagaa", sum := "8ad8950a7c2512cc73b8fbc1bb5a6c1e864083cfe3d0a0a9625af9af5fedfcc3", func := "terrier/terrkeep1.RingMoves", spec := "ringMoves", inPlace := ["math/bits.Add64"], unfollowed := true, recurses := true, named := ["math/bits.divideError", "math/bits.overflowError"], apart := false, narrowed := true }
def RingMovesUptoSaid : Prop := ringMovesUptoRow.holds Try.pinned (OpenSpec.upto ringMovesSpec)

/-- 'terrkeep1.RingPick', WHERE WHAT IT READS IS OF BULK AT MOST 1048576: true; the input reads as it did. -/
def ringPickUptoRow : OpenClaim := { program := "ytigllakcfdoagaa", sum := "8ad8950a7c2512cc73b8fbc1bb5a6c1e864083cfe3d0a0a9625af9af5fedfcc3", func := "terrier/terrkeep1.RingPick", spec := "ringPick", inPlace := ["math/bits.Add64"], unfollowed := true, recurses := true, named := ["math/bits.divideError", "math/bits.overflowError"], apart := false, narrowed := true }
def RingPickUptoSaid : Prop := ringPickUptoRow.holds Try.pinned (OpenSpec.upto ringPickSpec)

/-- 'terrkeep1.RingNorms', WHERE WHAT IT READS IS OF BULK AT MOST 1048576: true; the input reads as it did. -/
def ringNormsUptoRow : OpenClaim := { program := "ytigllakcfdoagaa", sum := "8ad8950a7c2512cc73b8fbc1bb5a6c1e864083cfe3d0a0a9625af9af5fedfcc3", func := "terrier/terrkeep1.RingNorms", spec := "ringNorms", inPlace := ["math/bits.Add64"], unfollowed := true, recurses := true, named := ["math/bits.divideError", "math/bits.overflowError"], apart := false, narrowed := true }
def RingNormsUptoSaid : Prop := ringNormsUptoRow.holds Try.pinned (OpenSpec.upto ringNormsSpec)

/-- 'terrtop.CrossingsLie', WHERE WHAT IT READS IS OF BULK AT MOST 1048576: true; the input reads as it did. -/
def crossingsLieUptoRow : OpenClaim := { program := "ytigllakcfdoagaa", sum := "8ad8950a7c2512cc73b8fbc1bb5a6c1e864083cfe3d0a0a9625af9af5fedfcc3", func := "terrier/terrtop.CrossingsLie", spec := "crossingsLie", inPlace := ["math/bits.Add64", "math/bits.Sub64"], unfollowed := true, recurses := true, named := ["math/bits.divideError", "math/bits.overflowError"], apart := false, narrowed := true }
def CrossingsLieUptoSaid : Prop := crossingsLieUptoRow.holds Try.pinned (OpenSpec.upto crossingsLieSpec)

/-- 'terrlaw1.BoxHits', WHERE WHAT IT READS IS OF BULK AT MOST 1048576: true; the input reads as it did. -/
def boxHitsUptoRow : OpenClaim := { program := "ytigllakcfdoagaa", sum := "8ad8950a7c2512cc73b8fbc1bb5a6c1e864083cfe3d0a0a9625af9af5fedfcc3", func := "terrier/terrlaw1.BoxHits", spec := "boxHits", apart := false, narrowed := true }
def BoxHitsUptoSaid : Prop := boxHitsUptoRow.holds Try.pinned (OpenSpec.upto boxHitsSpec)

end Rows
end Go.Proofs.Ytigllakcfdoagaa
