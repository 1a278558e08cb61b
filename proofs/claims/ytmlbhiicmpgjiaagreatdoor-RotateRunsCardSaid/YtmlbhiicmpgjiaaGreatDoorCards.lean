/-
  DERIVED. GIVEN WITH THE SEED: THE CARDS: each row of YtmlbhiicmpgjiaaGreatDoorRows.lean that lists a variable, with what it lists TIED to the program's text (the seventh form; the later family's looks); each row that meets fmt, with fmt's text TOLD by the authors' own Lean function (tested against real Go, not proved from fmt's source: count such statements apart). THE CARD IS WHAT COUNTS. Prove the row's statement (the work); the ties are given (YtmlbhiicmpgjiaaGreatDoorTie.lean); close each card by the builder's one call (the guide's Derived/Test/ToyasCard.lean, 'card_holds'). Laid BY PROGRAM, IN A SANDBOX (cutbox-door.mjs). By AI agents, Wed Nov 11 2026. No macro, syntax, notation, axiom, sorry.
-/
import Derived.Test.YtmlbhiicmpgjiaaGreatDoorRows
import GoSem.ClaimSeven
namespace Go.Proofs.YtmlbhiicmpgjiaaGreatDoor
namespace Rows

/-- THE TIED CARD OF 'palaverlaw41.RotateRuns'. -/
def rotateRunsCard : Claim7 := { stood := { row := rotateRunsRow, standIns := [], harness := (true, "57ad9196e3cdd17cd705d9308f1b8a01160359baa6565c943e97d9191a394527"), looks := false }, kinds := [], alts := [], laidByText := true, laidKinds := [.data, .data], laidTests := true, laidLooks := .later }
def RotateRunsCardSaid : Prop := Claim7.holds Tryz.pinned (.plain (OpenSpec.ofChange rotateRunsSpec)) rotateRunsCard

/-- THE SECOND FORM's CARD OF 'palaverlaw41.RotateRuns'. -/
def rotateRunsUptoCard : Claim7 := { stood := { row := rotateRunsUptoRow, standIns := [], harness := (true, "57ad9196e3cdd17cd705d9308f1b8a01160359baa6565c943e97d9191a394527"), looks := false }, kinds := [], alts := [], laidByText := true, laidKinds := [.data, .data], laidTests := true, laidLooks := .later }
def RotateRunsUptoCardSaid : Prop := Claim7.holds Tryz.pinned (.plain (OpenSpec.upto rotateRunsSpec)) rotateRunsUptoCard
end Rows
end Go.Proofs.YtmlbhiicmpgjiaaGreatDoor
