import Derived.Test.YtomnkdlfmjdckaaRg9
set_option linter.unusedVariables false
set_option linter.unusedSimpArgs false
namespace Go.Proofs.Ytomnkdlfmjdckaa.Am.Sp
def good2 (ps : List (Int × Int)) : Bool := allap ps ps.length && decide (0 < areaN ps)
def gq2 (s : Int) (r : Nat) (na nb : Nat) : Bool := (List.range na).all fun a => (List.range nb).all fun b => good2 (rng 0 0 r s a b)
set_option maxRecDepth 100000
theorem ell4 : ((List.range 6).all fun q => gq2 2 (q + 4) (q + 4) (q + 4)) = true := by decide +kernel
theorem ell10 : ((List.range 4).all fun q => gq2 2 (q + 10) (q + 10) (q + 10)) = true := by decide +kernel
theorem ell14 : ((List.range 3).all fun q => gq2 2 (q + 14) (q + 14) (q + 14)) = true := by decide +kernel
theorem ell17 : ((List.range 3).all fun q => gq2 2 (q + 17) (q + 17) (q + 17)) = true := by decide +kernel
theorem arr4 : ((List.range 16).all fun q => gq2 3 (q + 4) (q + 3) 1) = true := by decide +kernel
theorem oct4 : ((List.range 16).all fun q => gq2 4 (q + 4) (q + 3) 1) = true := by decide +kernel
theorem sqr4 : ((List.range 16).all fun q => gq2 0 (q + 4) 1 1) = true := by decide +kernel
end Go.Proofs.Ytomnkdlfmjdckaa.Am.Sp

