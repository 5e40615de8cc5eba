/-
  DERIVED. GIVEN WITH THE SEED: THE CARDS: each row of YtngmegnaohmapaaDoorRows.lean that lists a variable, with what it lists TIED to the program's text (the seventh form; the later family's looks); each row that meets fmt, with fmt's text TOLD by the authors' own Lean function (tested against real Go, not proved from fmt's source: count such statements apart). THE CARD IS WHAT COUNTS. Prove the row's statement (the work); the ties are given (YtngmegnaohmapaaDoorTie.lean); close each card by the builder's one call (the guide's Derived/Test/ToyasCard.lean, 'card_holds'). Laid BY PROGRAM, IN A SANDBOX (cutbox-door.mjs). By AI agents, Wed Nov 11 2026. No macro, syntax, notation, axiom, sorry.
-/
import Derived.Test.YtngmegnaohmapaaDoorRows
import GoSem.ClaimSeven
namespace Go.Proofs.YtngmegnaohmapaaDoor
namespace Rows

/-- THE TIED CARD OF 'terrlaw1.FracTexts'. -/
def fracTextsCard : Claim7 := { stood := { row := fracTextsRow, standIns := [], harness := (true, "d9a431e375cc9d0bb285150356f7ac3be2321e9f9ce6ddec717d6c5179257ecd"), looks := false }, kinds := [], alts := [], laidByText := true, laidKinds := [.data, .data, .data, .data, .pinned], laidTests := true, laidLooks := .later }
def FracTextsCardSaid : Prop := Claim7.holds Tryd.pinned (.plain (OpenSpec.ofChange fracTextsSpec)) fracTextsCard

/-- THE TIED CARD OF 'terrkeep1.FracRounded'. -/
def fracRoundedCard : Claim7 := { stood := { row := fracRoundedRow, standIns := [], harness := (true, "d9a431e375cc9d0bb285150356f7ac3be2321e9f9ce6ddec717d6c5179257ecd"), looks := false }, kinds := [], alts := [], laidByText := true, laidKinds := [.data, .data, .data, .data, .pinned], laidTests := true, laidLooks := .later }
def FracRoundedCardSaid : Prop := Claim7.holds Tryd.pinned (.plain (OpenSpec.ofChange fracRoundedSpec)) fracRoundedCard

/-- THE SECOND FORM's CARD OF 'terrlaw1.FracTexts'. -/
def fracTextsUptoCard : Claim7 := { stood := { row := fracTextsUptoRow, standIns := [], harness := (true, "d9a431e375cc9d0bb285150356f7ac3be2321e9f9ce6ddec717d6c5179257ecd"), looks := false }, kinds := [], alts := [], laidByText := true, laidKinds := [.data, .data, .data, .data, .pinned], laidTests := true, laidLooks := .later }
def FracTextsUptoCardSaid : Prop := Claim7.holds Tryd.pinned (.plain (OpenSpec.upto fracTextsSpec)) fracTextsUptoCard

/-- THE SECOND FORM's CARD OF 'terrkeep1.FracRounded'. -/
def fracRoundedUptoCard : Claim7 := { stood := { row := fracRoundedUptoRow, standIns := [], harness := (true, "d9a431e375cc9d0bb285150356f7ac3be2321e9f9ce6ddec717d6c5179257ecd"), looks := false }, kinds := [], alts := [], laidByText := true, laidKinds := [.data, .data, .data, .data, .pinned], laidTests := true, laidLooks := .later }
def FracRoundedUptoCardSaid : Prop := Claim7.holds Tryd.pinned (.plain (OpenSpec.upto fracRoundedSpec)) fracRoundedUptoCard
end Rows
end Go.Proofs.YtngmegnaohmapaaDoor
