/-
  DERIVED. GIVEN WITH THE SEED: THE CARDS: each row of YtdiodmdohkjafaaDoorRows.lean that lists a variable, with what it lists TIED to the program's text (the seventh form; the later family's looks); each row that meets fmt, with fmt's text TOLD by the authors' own Lean function (tested against real Go, not proved from fmt's source: count such statements apart). THE CARD IS WHAT COUNTS. Prove the row's statement (the work); the ties are given (YtdiodmdohkjafaaDoorTie.lean); close each card by the builder's one call (the guide's Derived/Test/ToyasCard.lean, 'card_holds'). Laid BY PROGRAM, IN A SANDBOX (cutbox-door.mjs). By AI agents, Wed Nov 11 2026. No macro, syntax, notation, axiom, sorry.
-/
import Derived.Test.YtdiodmdohkjafaaDoorRows
import GoSem.ClaimSeven
namespace Go.Proofs.YtdiodmdohkjafaaDoor
namespace Rows

/-- THE TIED CARD OF 'easementlaw05.MixedPlays'. -/
def mixedPlaysCard : Claim7 := { stood := { row := mixedPlaysRow, standIns := [], harness := (true, "84b8374cf6c0bf8d40be1590f52befa2c12af58ad26dfbd500969a1d63f8c128"), looks := false }, kinds := [], alts := [], laidByText := true, laidKinds := [.data], laidTests := true, laidLooks := .later }
def MixedPlaysCardSaid : Prop := Claim7.holds Tryd.pinned (.plain (OpenSpec.ofChange mixedPlaysSpec)) mixedPlaysCard

/-- THE TIED CARD OF 'easementlaw05.MixedSame'. -/
def mixedSameCard : Claim7 := { stood := { row := mixedSameRow, standIns := [], harness := (true, "84b8374cf6c0bf8d40be1590f52befa2c12af58ad26dfbd500969a1d63f8c128"), looks := false }, kinds := [], alts := [], laidByText := true, laidKinds := [.data], laidTests := true, laidLooks := .later }
def MixedSameCardSaid : Prop := Claim7.holds Tryd.pinned (.plain (OpenSpec.ofChange mixedSameSpec)) mixedSameCard

/-- THE SECOND FORM's CARD OF 'easementlaw05.MixedPlays'. -/
def mixedPlaysUptoCard : Claim7 := { stood := { row := mixedPlaysUptoRow, standIns := [], harness := (true, "84b8374cf6c0bf8d40be1590f52befa2c12af58ad26dfbd500969a1d63f8c128"), looks := false }, kinds := [], alts := [], laidByText := true, laidKinds := [.data], laidTests := true, laidLooks := .later }
def MixedPlaysUptoCardSaid : Prop := Claim7.holds Tryd.pinned (.plain (OpenSpec.upto mixedPlaysSpec)) mixedPlaysUptoCard

/-- THE SECOND FORM's CARD OF 'easementlaw05.MixedSame'. -/
def mixedSameUptoCard : Claim7 := { stood := { row := mixedSameUptoRow, standIns := [], harness := (true, "84b8374cf6c0bf8d40be1590f52befa2c12af58ad26dfbd500969a1d63f8c128"), looks := false }, kinds := [], alts := [], laidByText := true, laidKinds := [.data], laidTests := true, laidLooks := .later }
def MixedSameUptoCardSaid : Prop := Claim7.holds Tryd.pinned (.plain (OpenSpec.upto mixedSameSpec)) mixedSameUptoCard
end Rows
end Go.Proofs.YtdiodmdohkjafaaDoor
