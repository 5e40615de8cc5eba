import Derived.Test.YtomnkdlfmjdckaaRg9
set_option linter.unusedVariables false
set_option linter.unusedSimpArgs false
namespace Go.Proofs.Ytomnkdlfmjdckaa.Am.Sp
/-! The rings that are drawn, around the origin: they are rings, counterclockwise -/
def good (ps : List (Int × Int)) : Bool := allap ps ps.length && decide (0 < areaN ps)
def gq (s : Int) (r : Nat) (na nb : Nat) : Bool := (List.range na).all fun a => (List.range nb).all fun b => good (rng 0 0 r s a b)
set_option maxRecDepth 100000
theorem tri4 : ((List.range 4).all fun q => gq 1 (q + 4) (2 * (q + 4)) (2 * (q + 4))) = true := by decide +kernel
theorem tri8 : ((List.range 3).all fun q => gq 1 (q + 8) (2 * (q + 8)) (2 * (q + 8))) = true := by decide +kernel
theorem tri11 : ((List.range 3).all fun q => gq 1 (q + 11) (2 * (q + 11)) (2 * (q + 11))) = true := by decide +kernel
theorem tri14 : ((List.range 2).all fun q => gq 1 (q + 14) (2 * (q + 14)) (2 * (q + 14))) = true := by decide +kernel
theorem tri16 : ((List.range 2).all fun q => gq 1 (q + 16) (2 * (q + 16)) (2 * (q + 16))) = true := by decide +kernel
theorem tri18 : ((List.range 2).all fun q => gq 1 (q + 18) (2 * (q + 18)) (2 * (q + 18))) = true := by decide +kernel
end Go.Proofs.Ytomnkdlfmjdckaa.Am.Sp

