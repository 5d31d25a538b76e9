/-
  DERIVED. GIVEN WITH THE SEED: THE CARDS: each row of YtgoapobflajliaaDoorRows.lean that lists a variable, with what it lists TIED to the program's text (the seventh form; the later family's looks); each row that meets fmt, with fmt's text TOLD by the authors' own Lean function (tested against real Go, not proved from fmt's source: count such statements apart). THE CARD IS WHAT COUNTS. Prove the row's statement (the work); the ties are given (YtgoapobflajliaaDoorTie.lean); close each card by the builder's one call (the guide's Derived/Test/ToyasCard.lean, 'card_holds'). Laid BY PROGRAM, IN A SANDBOX (cutbox-door.mjs). By AI agents, Wed Nov 11 2026. No macro, syntax, notation, axiom, sorry.
-/
import Derived.Test.YtgoapobflajliaaDoorRows
import GoSem.ClaimSeven
namespace Go.Proofs.YtgoapobflajliaaDoor
namespace Rows

/-- THE TIED CARD OF 'easementlaw39.PoolNone'. -/
def poolNoneCard : Claim7 := { stood := { row := poolNoneRow, standIns := [], harness := (true, "4954a0016f892481e397c3f6b6d64255b313d4d8d6f14f136c8398c3c45600d2"), looks := false }, kinds := [], alts := [], laidByText := true, laidKinds := [.data], laidTests := true, laidLooks := .later }
def PoolNoneCardSaid : Prop := Claim7.holds Tryd.pinned (.plain (OpenSpec.ofChange poolNoneSpec)) poolNoneCard

/-- THE TIED CARD OF 'easementlaw39.PoolSets'. -/
def poolSetsCard : Claim7 := { stood := { row := poolSetsRow, standIns := [], harness := (true, "4954a0016f892481e397c3f6b6d64255b313d4d8d6f14f136c8398c3c45600d2"), looks := false }, kinds := [], alts := [], laidByText := true, laidKinds := [.data], laidTests := true, laidLooks := .later }
def PoolSetsCardSaid : Prop := Claim7.holds Tryd.pinned (.plain (OpenSpec.ofChange poolSetsSpec)) poolSetsCard

/-- THE TIED CARD OF 'easementlaw06.MatrixPlays'. -/
def matrixPlaysCard : Claim7 := { stood := { row := matrixPlaysRow, standIns := [], harness := (true, "4954a0016f892481e397c3f6b6d64255b313d4d8d6f14f136c8398c3c45600d2"), looks := false }, kinds := [], alts := [], laidByText := true, laidKinds := [.data], laidTests := true, laidLooks := .later }
def MatrixPlaysCardSaid : Prop := Claim7.holds Tryd.pinned (.plain (OpenSpec.ofChange matrixPlaysSpec)) matrixPlaysCard

/-- THE TIED CARD OF 'easementlaw06.MatrixCloses'. -/
def matrixClosesCard : Claim7 := { stood := { row := matrixClosesRow, standIns := [], harness := (true, "4954a0016f892481e397c3f6b6d64255b313d4d8d6f14f136c8398c3c45600d2"), looks := false }, kinds := [], alts := [], laidByText := true, laidKinds := [.data], laidTests := true, laidLooks := .later }
def MatrixClosesCardSaid : Prop := Claim7.holds Tryd.pinned (.plain (OpenSpec.ofChange matrixClosesSpec)) matrixClosesCard

/-- THE TIED CARD OF 'easementlaw06.MatrixTurns'. -/
def matrixTurnsCard : Claim7 := { stood := { row := matrixTurnsRow, standIns := [], harness := (true, "4954a0016f892481e397c3f6b6d64255b313d4d8d6f14f136c8398c3c45600d2"), looks := false }, kinds := [], alts := [], laidByText := true, laidKinds := [.data], laidTests := true, laidLooks := .later }
def MatrixTurnsCardSaid : Prop := Claim7.holds Tryd.pinned (.plain (OpenSpec.ofChange matrixTurnsSpec)) matrixTurnsCard

/-- THE SECOND FORM's CARD OF 'easementlaw39.PoolNone'. -/
def poolNoneUptoCard : Claim7 := { stood := { row := poolNoneUptoRow, standIns := [], harness := (true, "4954a0016f892481e397c3f6b6d64255b313d4d8d6f14f136c8398c3c45600d2"), looks := false }, kinds := [], alts := [], laidByText := true, laidKinds := [.data], laidTests := true, laidLooks := .later }
def PoolNoneUptoCardSaid : Prop := Claim7.holds Tryd.pinned (.plain (OpenSpec.upto poolNoneSpec)) poolNoneUptoCard

/-- THE SECOND FORM's CARD OF 'easementlaw39.PoolSets'. -/
def poolSetsUptoCard : Claim7 := { stood := { row := poolSetsUptoRow, standIns := [], harness := (true, "4954a0016f892481e397c3f6b6d64255b313d4d8d6f14f136c8398c3c45600d2"), looks := false }, kinds := [], alts := [], laidByText := true, laidKinds := [.data], laidTests := true, laidLooks := .later }
def PoolSetsUptoCardSaid : Prop := Claim7.holds Tryd.pinned (.plain (OpenSpec.upto poolSetsSpec)) poolSetsUptoCard

/-- THE SECOND FORM's CARD OF 'easementlaw06.MatrixPlays'. -/
def matrixPlaysUptoCard : Claim7 := { stood := { row := matrixPlaysUptoRow, standIns := [], harness := (true, "4954a0016f892481e397c3f6b6d64255b313d4d8d6f14f136c8398c3c45600d2"), looks := false }, kinds := [], alts := [], laidByText := true, laidKinds := [.data], laidTests := true, laidLooks := .later }
def MatrixPlaysUptoCardSaid : Prop := Claim7.holds Tryd.pinned (.plain (OpenSpec.upto matrixPlaysSpec)) matrixPlaysUptoCard

/-- THE SECOND FORM's CARD OF 'easementlaw06.MatrixCloses'. -/
def matrixClosesUptoCard : Claim7 := { stood := { row := matrixClosesUptoRow, standIns := [], harness := (true, "4954a0016f892481e397c3f6b6d64255b313d4d8d6f14f136c8398c3c45600d2"), looks := false }, kinds := [], alts := [], laidByText := true, laidKinds := [.data], laidTests := true, laidLooks := .later }
def MatrixClosesUptoCardSaid : Prop := Claim7.holds Tryd.pinned (.plain (OpenSpec.upto matrixClosesSpec)) matrixClosesUptoCard

/-- THE SECOND FORM's CARD OF 'easementlaw06.MatrixTurns'. -/
def matrixTurnsUptoCard : Claim7 := { stood := { row := matrixTurnsUptoRow, standIns := [], harness := (true, "4954a0016f892481e397c3f6b6d64255b313d4d8d6f14f136c8398c3c45600d2"), looks := false }, kinds := [], alts := [], laidByText := true, laidKinds := [.data], laidTests := true, laidLooks := .later }
def MatrixTurnsUptoCardSaid : Prop := Claim7.holds Tryd.pinned (.plain (OpenSpec.upto matrixTurnsSpec)) matrixTurnsUptoCard
end Rows
end Go.Proofs.YtgoapobflajliaaDoor
