/-
  DERIVED. GIVEN WITH THE SEED: THE CARDS: each row of YtphhialimmhopaaDoorRows.lean that lists a variable, with what it lists TIED to the program's text (the seventh form; the later family's looks); each row that meets fmt, with fmt's text TOLD by the authors' own Lean function (tested against real Go, not proved from fmt's source: count such statements apart). THE CARD IS WHAT COUNTS. Prove the row's statement (the work); the ties are given (YtphhialimmhopaaDoorTie.lean); close each card by the builder's one call (the guide's Derived/Test/ToyasCard.lean, 'card_holds'). Laid BY PROGRAM, IN A SANDBOX (cutbox-door.mjs). By AI agents, Wed Nov 11 2026. No macro, syntax, notation, axiom, sorry.
-/
import Derived.Test.YtphhialimmhopaaDoorRows
import GoSem.ClaimSeven
namespace Go.Proofs.YtphhialimmhopaaDoor
namespace Rows

/-- THE TIED CARD OF 'easementlaw03.DenseJoins'. -/
def denseJoinsCard : Claim7 := { stood := { row := denseJoinsRow, standIns := [], harness := (true, "66c49fe6c8300737a4018161f8a7779bea50d3a425a28b350242db55a736263e"), looks := false }, kinds := [], alts := [], laidByText := true, laidKinds := [.data], laidTests := true, laidLooks := .later }
def DenseJoinsCardSaid : Prop := Claim7.holds Tryd.pinned (.plain (OpenSpec.ofChange denseJoinsSpec)) denseJoinsCard

/-- THE TIED CARD OF 'easementlaw03.DensePlays'. -/
def densePlaysCard : Claim7 := { stood := { row := densePlaysRow, standIns := [], harness := (true, "66c49fe6c8300737a4018161f8a7779bea50d3a425a28b350242db55a736263e"), looks := false }, kinds := [], alts := [], laidByText := true, laidKinds := [.data], laidTests := true, laidLooks := .later }
def DensePlaysCardSaid : Prop := Claim7.holds Tryd.pinned (.plain (OpenSpec.ofChange densePlaysSpec)) densePlaysCard

/-- THE TIED CARD OF 'easementlaw03.DenseNone'. -/
def denseNoneCard : Claim7 := { stood := { row := denseNoneRow, standIns := [], harness := (true, "66c49fe6c8300737a4018161f8a7779bea50d3a425a28b350242db55a736263e"), looks := false }, kinds := [], alts := [], laidByText := true, laidKinds := [.data], laidTests := true, laidLooks := .later }
def DenseNoneCardSaid : Prop := Claim7.holds Tryd.pinned (.plain (OpenSpec.ofChange denseNoneSpec)) denseNoneCard

/-- THE SECOND FORM's CARD OF 'easementlaw03.DenseJoins'. -/
def denseJoinsUptoCard : Claim7 := { stood := { row := denseJoinsUptoRow, standIns := [], harness := (true, "66c49fe6c8300737a4018161f8a7779bea50d3a425a28b350242db55a736263e"), looks := false }, kinds := [], alts := [], laidByText := true, laidKinds := [.data], laidTests := true, laidLooks := .later }
def DenseJoinsUptoCardSaid : Prop := Claim7.holds Tryd.pinned (.plain (OpenSpec.upto denseJoinsSpec)) denseJoinsUptoCard

/-- THE SECOND FORM's CARD OF 'easementlaw03.DensePlays'. -/
def densePlaysUptoCard : Claim7 := { stood := { row := densePlaysUptoRow, standIns := [], harness := (true, "66c49fe6c8300737a4018161f8a7779bea50d3a425a28b350242db55a736263e"), looks := false }, kinds := [], alts := [], laidByText := true, laidKinds := [.data], laidTests := true, laidLooks := .later }
def DensePlaysUptoCardSaid : Prop := Claim7.holds Tryd.pinned (.plain (OpenSpec.upto densePlaysSpec)) densePlaysUptoCard

/-- THE SECOND FORM's CARD OF 'easementlaw03.DenseNone'. -/
def denseNoneUptoCard : Claim7 := { stood := { row := denseNoneUptoRow, standIns := [], harness := (true, "66c49fe6c8300737a4018161f8a7779bea50d3a425a28b350242db55a736263e"), looks := false }, kinds := [], alts := [], laidByText := true, laidKinds := [.data], laidTests := true, laidLooks := .later }
def DenseNoneUptoCardSaid : Prop := Claim7.holds Tryd.pinned (.plain (OpenSpec.upto denseNoneSpec)) denseNoneUptoCard
end Rows
end Go.Proofs.YtphhialimmhopaaDoor
