/-
  No cell of these rows narrows 'for every input' (looked for: loops, veiled, ifaces, maps, wideKeys, modest, calm, conditions, laid).
  DERIVED. THE GIVEN ROWS OF THIS SEAT. 10 by the template 'for every input the law returns true; each argument reads behind the call as it read before'; 0 by the template 'total and deterministic' (their statements: YthflpnpnlpaigaaTotals.lean).
  GIVEN WITH THE SEED: the statements are not yours to turn. If you find one false, say at which input.
  Laid BY PROGRAM, IN A SANDBOX (cutbox-rows.mjs): the forced cells as the released guide's own fill.sh prints them over the translation 44369a1ccc11d276… (all of the seat's roots in one cut). By AI agents, Wed Nov 11 2026. No macro, syntax, notation, axiom, sorry.
-/
import Derived.Test.YthflpnpnlpaigaaChecked
import GoSem.Claim
import GoSem.ClaimJoined
import GoSem.ClaimMapViews
import Derived.JoinedTies
import Derived.KernelRfl
namespace Go.Proofs.Ythflpnpnlpaigaa
/- THE CELL 'sum', in the pinned program and in every row, IS THE sha256 OF THE DUMP (.gsa) THAT YthflpnpnlpaigaaProg.lean LOADS. Nothing in Lean hashes anything: it is a label: what it is worth is what the hold of that sum in a sandbox is worth. -/
noncomputable def Try.pinned : Pinned := { name := "ythflpnpnlpaigaa", sum := "44369a1ccc11d27647a30620a7be6d7db06c69b5688a5e4bc5479dd0624b2285", checked := Try.checked }
namespace Rows
def none {H : Type} : Left H := { results := [], args := [] }

/-- 'terrlaw1.FracRounds': WHATEVER THE INPUT: true; the input reads as it did. -/
def fracRoundsSpec : ChangeSpec := { name := "fracRounds", fn := fun _ => fun
  | [d] => { results := [.lit (.bool true)], args := [d] }
  | _ => none }
def fracRoundsRow : OpenClaim := { program := "ythflpnpnlpaigaa", sum := "44369a1ccc11d27647a30620a7be6d7db06c69b5688a5e4bc5479dd0624b2285", func := "terrier/terrlaw1.FracRounds", spec := "fracRounds", apart := false }
def FracRoundsSaid : Prop := fracRoundsRow.holds Try.pinned (OpenSpec.ofChange fracRoundsSpec)

/-- ITS FALSE NEIGHBOUR: 'it returns false'. Refute it at one input. -/
def fracRoundsWrong : ChangeSpec := { name := "fracRounds", fn := fun _ => fun
  | [d] => { results := [.lit (.bool false)], args := [d] }
  | _ => none }
def FracRoundsWrongFalsely : Prop := fracRoundsRow.holds Try.pinned (OpenSpec.ofChange fracRoundsWrong)

/-- 'terrlaw1.FracMuls': WHATEVER THE INPUT: true; the input reads as it did. -/
def fracMulsSpec : ChangeSpec := { name := "fracMuls", fn := fun _ => fun
  | [d1, d2, d3, d4] => { results := [.lit (.bool true)], args := [d1, d2, d3, d4] }
  | _ => none }
def fracMulsRow : OpenClaim := { program := "ythflpnpnlpaigaa", sum := "44369a1ccc11d27647a30620a7be6d7db06c69b5688a5e4bc5479dd0624b2285", func := "terrier/terrlaw1.FracMuls", spec := "fracMuls", apart := false }
def FracMulsSaid : Prop := fracMulsRow.holds Try.pinned (OpenSpec.ofChange fracMulsSpec)

/-- ITS FALSE NEIGHBOUR: 'it returns false'. Refute it at one input. -/
def fracMulsWrong : ChangeSpec := { name := "fracMuls", fn := fun _ => fun
  | [d1, d2, d3, d4] => { results := [.lit (.bool false)], args := [d1, d2, d3, d4] }
  | _ => none }
def FracMulsWrongFalsely : Prop := fracMulsRow.holds Try.pinned (OpenSpec.ofChange fracMulsWrong)

/-- 'terrlaw1.FracAdds': WHATEVER THE INPUT: true; the input reads as it did. -/
def fracAddsSpec : ChangeSpec := { name := "fracAdds", fn := fun _ => fun
  | [d1, d2] => { results := [.lit (.bool true)], args := [d1, d2] }
  | _ => none }
def fracAddsRow : OpenClaim := { program := "ythflpnpnlpaigaa", sum := "44369a1ccc11d27647a30620a7be6d7db06c69b5688a5e4bc5479dd0624b2285", func := "terrier/terrlaw1.FracAdds", spec := "fracAdds", inPlace := ["math/bits.Add64"], named := ["math/bits.divideError", "math/bits.overflowError"], apart := false }
def FracAddsSaid : Prop := fracAddsRow.holds Try.pinned (OpenSpec.ofChange fracAddsSpec)

/-- ITS FALSE NEIGHBOUR: 'it returns false'. Refute it at one input. -/
def fracAddsWrong : ChangeSpec := { name := "fracAdds", fn := fun _ => fun
  | [d1, d2] => { results := [.lit (.bool false)], args := [d1, d2] }
  | _ => none }
def FracAddsWrongFalsely : Prop := fracAddsRow.holds Try.pinned (OpenSpec.ofChange fracAddsWrong)

/-- 'terrkeep1.FracField': WHATEVER THE INPUT: true; the input reads as it did. -/
def fracFieldSpec : ChangeSpec := { name := "fracField", fn := fun _ => fun
  | [d1, d2, d3] => { results := [.lit (.bool true)], args := [d1, d2, d3] }
  | _ => none }
def fracFieldRow : OpenClaim := { program := "ythflpnpnlpaigaa", sum := "44369a1ccc11d27647a30620a7be6d7db06c69b5688a5e4bc5479dd0624b2285", func := "terrier/terrkeep1.FracField", spec := "fracField", inPlace := ["math/bits.Add64"], named := ["math/bits.divideError", "math/bits.overflowError"], apart := false }
def FracFieldSaid : Prop := fracFieldRow.holds Try.pinned (OpenSpec.ofChange fracFieldSpec)

/-- ITS FALSE NEIGHBOUR: 'it returns false'. Refute it at one input. -/
def fracFieldWrong : ChangeSpec := { name := "fracField", fn := fun _ => fun
  | [d1, d2, d3] => { results := [.lit (.bool false)], args := [d1, d2, d3] }
  | _ => none }
def FracFieldWrongFalsely : Prop := fracFieldRow.holds Try.pinned (OpenSpec.ofChange fracFieldWrong)

/-- 'terrkeep1.FracOrder': WHATEVER THE INPUT: true; the input reads as it did. -/
def fracOrderSpec : ChangeSpec := { name := "fracOrder", fn := fun _ => fun
  | [d1, d2, d3] => { results := [.lit (.bool true)], args := [d1, d2, d3] }
  | _ => none }
def fracOrderRow : OpenClaim := { program := "ythflpnpnlpaigaa", sum := "44369a1ccc11d27647a30620a7be6d7db06c69b5688a5e4bc5479dd0624b2285", func := "terrier/terrkeep1.FracOrder", spec := "fracOrder", inPlace := ["math/bits.Add64"], named := ["math/bits.divideError", "math/bits.overflowError"], apart := false }
def FracOrderSaid : Prop := fracOrderRow.holds Try.pinned (OpenSpec.ofChange fracOrderSpec)

/-- ITS FALSE NEIGHBOUR: 'it returns false'. Refute it at one input. -/
def fracOrderWrong : ChangeSpec := { name := "fracOrder", fn := fun _ => fun
  | [d1, d2, d3] => { results := [.lit (.bool false)], args := [d1, d2, d3] }
  | _ => none }
def FracOrderWrongFalsely : Prop := fracOrderRow.holds Try.pinned (OpenSpec.ofChange fracOrderWrong)

/-- 'terrlaw1.SpanMuls': WHATEVER THE INPUT: true; the input reads as it did. -/
def spanMulsSpec : ChangeSpec := { name := "spanMuls", fn := fun _ => fun
  | [d1, d2] => { results := [.lit (.bool true)], args := [d1, d2] }
  | _ => none }
def spanMulsRow : OpenClaim := { program := "ythflpnpnlpaigaa", sum := "44369a1ccc11d27647a30620a7be6d7db06c69b5688a5e4bc5479dd0624b2285", func := "terrier/terrlaw1.SpanMuls", spec := "spanMuls", unfollowed := true, recurses := true, apart := false }
def SpanMulsSaid : Prop := spanMulsRow.holds Try.pinned (OpenSpec.ofChange spanMulsSpec)

/-- ITS FALSE NEIGHBOUR: 'it returns false'. Refute it at one input. -/
def spanMulsWrong : ChangeSpec := { name := "spanMuls", fn := fun _ => fun
  | [d1, d2] => { results := [.lit (.bool false)], args := [d1, d2] }
  | _ => none }
def SpanMulsWrongFalsely : Prop := spanMulsRow.holds Try.pinned (OpenSpec.ofChange spanMulsWrong)

/-- 'terrlaw1.SpanOuts': WHATEVER THE INPUT: true; the input reads as it did. -/
def spanOutsSpec : ChangeSpec := { name := "spanOuts", fn := fun _ => fun
  | [d1, d2] => { results := [.lit (.bool true)], args := [d1, d2] }
  | _ => none }
def spanOutsRow : OpenClaim := { program := "ythflpnpnlpaigaa", sum := "44369a1ccc11d27647a30620a7be6d7db06c69b5688a5e4bc5479dd0624b2285", func := "terrier/terrlaw1.SpanOuts", spec := "spanOuts", unfollowed := true, recurses := true, apart := false }
def SpanOutsSaid : Prop := spanOutsRow.holds Try.pinned (OpenSpec.ofChange spanOutsSpec)

/-- ITS FALSE NEIGHBOUR: 'it returns false'. Refute it at one input. -/
def spanOutsWrong : ChangeSpec := { name := "spanOuts", fn := fun _ => fun
  | [d1, d2] => { results := [.lit (.bool false)], args := [d1, d2] }
  | _ => none }
def SpanOutsWrongFalsely : Prop := spanOutsRow.holds Try.pinned (OpenSpec.ofChange spanOutsWrong)

/-- 'terrlaw1.SpanAdds': WHATEVER THE INPUT: true; the input reads as it did. -/
def spanAddsSpec : ChangeSpec := { name := "spanAdds", fn := fun _ => fun
  | [d1, d2, d3, d4] => { results := [.lit (.bool true)], args := [d1, d2, d3, d4] }
  | _ => none }
def spanAddsRow : OpenClaim := { program := "ythflpnpnlpaigaa", sum := "44369a1ccc11d27647a30620a7be6d7db06c69b5688a5e4bc5479dd0624b2285", func := "terrier/terrlaw1.SpanAdds", spec := "spanAdds", inPlace := ["math/bits.Add64"], unfollowed := true, recurses := true, named := ["math/bits.divideError", "math/bits.overflowError"], apart := false }
def SpanAddsSaid : Prop := spanAddsRow.holds Try.pinned (OpenSpec.ofChange spanAddsSpec)

/-- ITS FALSE NEIGHBOUR: 'it returns false'. Refute it at one input. -/
def spanAddsWrong : ChangeSpec := { name := "spanAdds", fn := fun _ => fun
  | [d1, d2, d3, d4] => { results := [.lit (.bool false)], args := [d1, d2, d3, d4] }
  | _ => none }
def SpanAddsWrongFalsely : Prop := spanAddsRow.holds Try.pinned (OpenSpec.ofChange spanAddsWrong)

/-- 'terrkeep1.SpanMeets': WHATEVER THE INPUT: true; the input reads as it did. -/
def spanMeetsSpec : ChangeSpec := { name := "spanMeets", fn := fun _ => fun
  | [d1, d2, d3, d4, d5] => { results := [.lit (.bool true)], args := [d1, d2, d3, d4, d5] }
  | _ => none }
def spanMeetsRow : OpenClaim := { program := "ythflpnpnlpaigaa", sum := "44369a1ccc11d27647a30620a7be6d7db06c69b5688a5e4bc5479dd0624b2285", func := "terrier/terrkeep1.SpanMeets", spec := "spanMeets", inPlace := ["math/bits.Add64"], unfollowed := true, recurses := true, named := ["math/bits.divideError", "math/bits.overflowError"], apart := false }
def SpanMeetsSaid : Prop := spanMeetsRow.holds Try.pinned (OpenSpec.ofChange spanMeetsSpec)

/-- ITS FALSE NEIGHBOUR: 'it returns false'. Refute it at one input. -/
def spanMeetsWrong : ChangeSpec := { name := "spanMeets", fn := fun _ => fun
  | [d1, d2, d3, d4, d5] => { results := [.lit (.bool false)], args := [d1, d2, d3, d4, d5] }
  | _ => none }
def SpanMeetsWrongFalsely : Prop := spanMeetsRow.holds Try.pinned (OpenSpec.ofChange spanMeetsWrong)

/-- 'terrkeep1.SpanHolds': WHATEVER THE INPUT: true; the input reads as it did. -/
def spanHoldsSpec : ChangeSpec := { name := "spanHolds", fn := fun _ => fun
  | [d1, d2, d3, d4, d5, d6, d7] => { results := [.lit (.bool true)], args := [d1, d2, d3, d4, d5, d6, d7] }
  | _ => none }
def spanHoldsRow : OpenClaim := { program := "ythflpnpnlpaigaa", sum := "44369a1ccc11d27647a30620a7be6d7db06c69b5688a5e4bc5479dd0624b2285", func := "terrier/terrkeep1.SpanHolds", spec := "spanHolds", inPlace := ["math/bits.Add64"], unfollowed := true, recurses := true, named := ["math/bits.divideError", "math/bits.overflowError"], apart := false }
def SpanHoldsSaid : Prop := spanHoldsRow.holds Try.pinned (OpenSpec.ofChange spanHoldsSpec)

/-- ITS FALSE NEIGHBOUR: 'it returns false'. Refute it at one input. -/
def spanHoldsWrong : ChangeSpec := { name := "spanHolds", fn := fun _ => fun
  | [d1, d2, d3, d4, d5, d6, d7] => { results := [.lit (.bool false)], args := [d1, d2, d3, d4, d5, d6, d7] }
  | _ => none }
def SpanHoldsWrongFalsely : Prop := spanHoldsRow.holds Try.pinned (OpenSpec.ofChange spanHoldsWrong)

/- THE SECOND FORM. 'bulk': how many values and letters a reading holds, each counted each time it is reached (what is shared counts as often as it is met; a slice's spare places count too). A statement '..UptoSaid' is the law's where the arguments, and the package variables that the reading takes, are together of bulk at most 1048576: NARROWER than '..Said'. Prove '..Said' where nothing that the law and all that it calls make is longer than what came in: it says more and counts as full. Else prove '..UptoSaid'. A law counts once. -/
mutual
def uptoBulk {H : Type} : DataW H → Nat
  | .lit (.string bytes) => bytes.length + 1
  | .lit _ => 1
  | .nil => 1
  | .ptr d => uptoBulk d + 1
  | .slice elems spare => uptoBulkAll elems + uptoBulkAll spare + 1
  | .agg parts => uptoBulkAll parts + 1
  | .iface _ d => uptoBulk d + 1
  | .map entries => uptoBulkEntries entries + 1
  | .held _ => 1
def uptoBulkAll {H : Type} : List (DataW H) → Nat
  | [] => 0
  | d :: r => uptoBulk d + uptoBulkAll r
def uptoBulkEntries {H : Type} : List (Lit × DataW H) → Nat
  | [] => 0
  | x :: r => uptoBulkEntry x + uptoBulkEntries r
def uptoBulkEntry {H : Type} : Lit × DataW H → Nat
  | (.string bytes, d) => bytes.length + uptoBulk d + 1
  | (_, d) => uptoBulk d + 1
 end
def uptoSmall : (H : Type) → List (DataW H) → Bool := fun _ ds => decide (uptoBulkAll ds ≤ 1048576)
def OpenSpec.upto (s : _root_.Go.ChangeSpec) : _root_.Go.OpenSpec := { _root_.Go.OpenSpec.ofChange s with cond := some uptoSmall }

/-- 'terrlaw1.FracRounds', WHERE WHAT IT READS IS OF BULK AT MOST 1048576: true; the input reads as it did. -/
def fracRoundsUptoRow : OpenClaim := { program := "ythflpnpnlpaigaa", sum := "44369a1ccc11d27647a30620a7be6d7db06c69b5688a5e4bc5479dd0624b2285", func := "terrier/terrlaw1.FracRounds", spec := "fracRounds", apart := false, narrowed := true }
def FracRoundsUptoSaid : Prop := fracRoundsUptoRow.holds Try.pinned (OpenSpec.upto fracRoundsSpec)

/-- 'terrlaw1.FracMuls', WHERE WHAT IT READS IS OF BULK AT MOST 1048576: true; the input reads as it did. -/
def fracMulsUptoRow : OpenClaim := { program := "ythflpnpnlpaigaa", sum := "44369a1ccc11d27647a30620a7be6d7db06c69b5688a5e4bc5479dd0624b2285", func := "terrier/terrlaw1.FracMuls", spec := "fracMuls", apart := false, narrowed := true }
def FracMulsUptoSaid : Prop := fracMulsUptoRow.holds Try.pinned (OpenSpec.upto fracMulsSpec)

/-- 'terrlaw1.FracAdds', WHERE WHAT IT READS IS OF BULK AT MOST 1048576: true; the input reads as it did. -/
def fracAddsUptoRow : OpenClaim := { program := "ythflpnpnlpaigaa", sum := "44369a1ccc11d27647a30620a7be6d7db06c69b5688a5e4bc5479dd0624b2285", func := "terrier/terrlaw1.FracAdds", spec := "fracAdds", inPlace := ["math/bits.Add64"], named := ["math/bits.divideError", "math/bits.overflowError"], apart := false, narrowed := true }
def FracAddsUptoSaid : Prop := fracAddsUptoRow.holds Try.pinned (OpenSpec.upto fracAddsSpec)

/-- 'terrkeep1.FracField', WHERE WHAT IT READS IS OF BULK AT MOST 1048576: true; the input reads as it did. -/
def fracFieldUptoRow : OpenClaim := { program := "ythflpnpnlpaigaa", sum := "44369a1ccc11d27647a30620a7be6d7db06c69b5688a5e4bc5479dd0624b2285", func := "terrier/terrkeep1.FracField", spec := "fracField", inPlace := ["math/bits.Add64"], named := ["math/bits.divideError", "math/bits.overflowError"], apart := false, narrowed := true }
def FracFieldUptoSaid : Prop := fracFieldUptoRow.holds Try.pinned (OpenSpec.upto fracFieldSpec)

/-- 'terrkeep1.FracOrder', WHERE WHAT IT READS IS OF BULK AT MOST 1048576: true; the input reads as it did. -/
def fracOrderUptoRow : OpenClaim := { program := "ythflpnpnlpaigaa", sum := "44369a1ccc11d27647a30620a7be6d7db06c69b5688a5e4bc5479dd0624b2285", func := "terrier/terrkeep1.FracOrder", spec := "fracOrder", inPlace := ["math/bits.Add64"], named := ["math/bits.divideError", "math/bits.overflowError"], apart := false, narrowed := true }
def FracOrderUptoSaid : Prop := fracOrderUptoRow.holds Try.pinned (OpenSpec.upto fracOrderSpec)

/-- 'terrlaw1.SpanMuls', WHERE WHAT IT READS IS OF BULK AT MOST 1048576: true; the input reads as it did. -/
def spanMulsUptoRow : OpenClaim := { program := "ythflpnpnlpaigaa", sum := "44369a1ccc11d27647a30620a7be6d7db06c69b5688a5e4bc5479dd0624b2285", func := "terrier/terrlaw1.SpanMuls", spec := "spanMuls", unfollowed := true, recurses := true, apart := false, narrowed := true }
def SpanMulsUptoSaid : Prop := spanMulsUptoRow.holds Try.pinned (OpenSpec.upto spanMulsSpec)

/-- 'terrlaw1.SpanOuts', WHERE WHAT IT READS IS OF BULK AT MOST 1048576: true; the input reads as it did. -/
def spanOutsUptoRow : OpenClaim := { program := "ythflpnpnlpaigaa", sum := "44369a1ccc11d27647a30620a7be6d7db06c69b5688a5e4bc5479dd0624b2285", func := "terrier/terrlaw1.SpanOuts", spec := "spanOuts", unfollowed := true, recurses := true, apart := false, narrowed := true }
def SpanOutsUptoSaid : Prop := spanOutsUptoRow.holds Try.pinned (OpenSpec.upto spanOutsSpec)

/-- 'terrlaw1.SpanAdds', WHERE WHAT IT READS IS OF BULK AT MOST 1048576: true; the input reads as it did. -/
def spanAddsUptoRow : OpenClaim := { program := "ythflpnpnlpaigaa", sum := "44369a1ccc11d27647a30620a7be6d7db06c69b5688a5e4bc5479dd0624b2285", func := "terrier/terrlaw1.SpanAdds", spec := "spanAdds", inPlace := ["math/bits.Add64"], unfollowed := true, recurses := true, named := ["math/bits.divideError", "math/bits.overflowError"], apart := false, narrowed := true }
def SpanAddsUptoSaid : Prop := spanAddsUptoRow.holds Try.pinned (OpenSpec.upto spanAddsSpec)

/-- 'terrkeep1.SpanMeets', WHERE WHAT IT READS IS OF BULK AT MOST 1048576: true; the input reads as it did. -/
def spanMeetsUptoRow : OpenClaim := { program := "ythflpnpnlpaigaa", sum := "44369a1ccc11d27647a30620a7be6d7db06c69b5688a5e4bc5479dd0624b2285", func := "terrier/terrkeep1.SpanMeets", spec := "spanMeets", inPlace := ["math/bits.Add64"], unfollowed := true, recurses := true, named := ["math/bits.divideError", "math/bits.overflowError"], apart := false, narrowed := true }
def SpanMeetsUptoSaid : Prop := spanMeetsUptoRow.holds Try.pinned (OpenSpec.upto spanMeetsSpec)

/-- 'terrkeep1.SpanHolds', WHERE WHAT IT READS IS OF BULK AT MOST 1048576: true; the input reads as it did. -/
def spanHoldsUptoRow : OpenClaim := { program := "ythflpnpnlpaigaa", sum := "44369a1ccc11d27647a30620a7be6d7db06c69b5688a5e4bc5479dd0624b2285", func := "terrier/terrkeep1.SpanHolds", spec := "spanHolds", inPlace := ["math/bits.Add64"], unfollowed := true, recurses := true, named := ["math/bits.divideError", "math/bits.overflowError"], apart := false, narrowed := true }
def SpanHoldsUptoSaid : Prop := spanHoldsUptoRow.holds Try.pinned (OpenSpec.upto spanHoldsSpec)

end Rows
end Go.Proofs.Ythflpnpnlpaigaa
