/-
  DERIVED. GIVEN WITH THE SEED: THE CARDS: each row of YtjimiomokjfmiaaDoorRows.lean that lists a variable, with what it lists TIED to the program's text (the seventh form; the later family's looks); each row that meets fmt, with fmt's text TOLD by the authors' own Lean function (tested against real Go, not proved from fmt's source: count such statements apart). THE CARD IS WHAT COUNTS. Prove the row's statement (the work); the ties are given (YtjimiomokjfmiaaDoorTie.lean); close each card by the builder's one call (the guide's Derived/Test/ToyasCard.lean, 'card_holds'). Laid BY PROGRAM, IN A SANDBOX (cutbox-door.mjs). By AI agents, Wed Nov 11 2026. No macro, syntax, notation, axiom, sorry.
-/
import Derived.Test.YtjimiomokjfmiaaDoorRows
import GoSem.ClaimSeven
namespace Go.Proofs.YtjimiomokjfmiaaDoor
namespace Rows

/-- THE TIED CARD OF 'terrlaw1.WideTexts'. -/
def wideTextsCard : Claim7 := { stood := { row := wideTextsRow, standIns := [], harness := (true, "56f1eac66b864e8c13f0f8fb0acc4343a483bef1dc34894d677c69b5ce1549b2"), looks := false }, kinds := [], alts := [], laidByText := true, laidKinds := [.data, .pinned], laidTests := true, laidLooks := .later }
def WideTextsCardSaid : Prop := Claim7.holds Tryd.pinned (.plain (OpenSpec.ofChange wideTextsSpec)) wideTextsCard

/-- THE TIED CARD OF 'terrkeep1.WideWritten'. -/
def wideWrittenCard : Claim7 := { stood := { row := wideWrittenRow, standIns := [], harness := (true, "56f1eac66b864e8c13f0f8fb0acc4343a483bef1dc34894d677c69b5ce1549b2"), looks := false }, kinds := [], alts := [], laidByText := true, laidKinds := [.data, .pinned], laidTests := true, laidLooks := .later }
def WideWrittenCardSaid : Prop := Claim7.holds Tryd.pinned (.plain (OpenSpec.ofChange wideWrittenSpec)) wideWrittenCard

/-- THE SECOND FORM's CARD OF 'terrlaw1.WideTexts'. -/
def wideTextsUptoCard : Claim7 := { stood := { row := wideTextsUptoRow, standIns := [], harness := (true, "56f1eac66b864e8c13f0f8fb0acc4343a483bef1dc34894d677c69b5ce1549b2"), looks := false }, kinds := [], alts := [], laidByText := true, laidKinds := [.data, .pinned], laidTests := true, laidLooks := .later }
def WideTextsUptoCardSaid : Prop := Claim7.holds Tryd.pinned (.plain (OpenSpec.upto wideTextsSpec)) wideTextsUptoCard

/-- THE SECOND FORM's CARD OF 'terrkeep1.WideWritten'. -/
def wideWrittenUptoCard : Claim7 := { stood := { row := wideWrittenUptoRow, standIns := [], harness := (true, "56f1eac66b864e8c13f0f8fb0acc4343a483bef1dc34894d677c69b5ce1549b2"), looks := false }, kinds := [], alts := [], laidByText := true, laidKinds := [.data, .pinned], laidTests := true, laidLooks := .later }
def WideWrittenUptoCardSaid : Prop := Claim7.holds Tryd.pinned (.plain (OpenSpec.upto wideWrittenSpec)) wideWrittenUptoCard
end Rows
end Go.Proofs.YtjimiomokjfmiaaDoor
