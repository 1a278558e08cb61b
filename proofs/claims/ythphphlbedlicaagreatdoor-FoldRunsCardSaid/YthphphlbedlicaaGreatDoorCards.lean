/-
  DERIVED. GIVEN WITH THE SEED: THE CARDS: each row of YthphphlbedlicaaGreatDoorRows.lean that lists a variable, with what it lists TIED to the program's text (the seventh form; the later family's looks); each row that meets fmt, with fmt's text TOLD by the authors' own Lean function (tested against real Go, not proved from fmt's source: count such statements apart). THE CARD IS WHAT COUNTS. Prove the row's statement (the work); the ties are given (YthphphlbedlicaaGreatDoorTie.lean); close each card by the builder's one call (the guide's Derived/Test/ToyasCard.lean, 'card_holds'). Laid BY PROGRAM, IN A SANDBOX (cutbox-door.mjs). By AI agents, Wed Nov 11 2026. No macro, syntax, notation, axiom, sorry.
-/
import Derived.Test.YthphphlbedlicaaGreatDoorRows
import GoSem.ClaimSeven
namespace Go.Proofs.YthphphlbedlicaaGreatDoor
namespace Rows

/-- THE TIED CARD OF 'palaverlaw18.FoldNext'. -/
def foldNextCard : Claim7 := { stood := { row := foldNextRow, standIns := [], harness := (true, "2578db31163095d877c2bdf3835358364949b8aa080eb9e6c6b56bd9ca4c1254"), looks := true }, kinds := [], alts := [], laidByText := true, laidKinds := [.data, .data, .data, .data, .sentinel, .sentinel, .data, .pinned], laidTests := true, laidLooks := .later }
def FoldNextCardSaid : Prop := Claim7.holds Tryz.pinned (.plain (OpenSpec.ofChange foldNextSpec)) foldNextCard

/-- THE TIED CARD OF 'palaverlaw18.FoldRuns'. -/
def foldRunsCard : Claim7 := { stood := { row := foldRunsRow, standIns := [], harness := (true, "2578db31163095d877c2bdf3835358364949b8aa080eb9e6c6b56bd9ca4c1254"), looks := true }, kinds := [], alts := [], laidByText := true, laidKinds := [.data, .data, .data, .data, .sentinel, .sentinel, .data, .pinned], laidTests := true, laidLooks := .later }
def FoldRunsCardSaid : Prop := Claim7.holds Tryz.pinned (.plain (OpenSpec.ofChange foldRunsSpec)) foldRunsCard

/-- THE SECOND FORM's CARD OF 'palaverlaw18.FoldNext'. -/
def foldNextUptoCard : Claim7 := { stood := { row := foldNextUptoRow, standIns := [], harness := (true, "2578db31163095d877c2bdf3835358364949b8aa080eb9e6c6b56bd9ca4c1254"), looks := true }, kinds := [], alts := [], laidByText := true, laidKinds := [.data, .data, .data, .data, .sentinel, .sentinel, .data, .pinned], laidTests := true, laidLooks := .later }
def FoldNextUptoCardSaid : Prop := Claim7.holds Tryz.pinned (.plain (OpenSpec.upto foldNextSpec)) foldNextUptoCard

/-- THE SECOND FORM's CARD OF 'palaverlaw18.FoldRuns'. -/
def foldRunsUptoCard : Claim7 := { stood := { row := foldRunsUptoRow, standIns := [], harness := (true, "2578db31163095d877c2bdf3835358364949b8aa080eb9e6c6b56bd9ca4c1254"), looks := true }, kinds := [], alts := [], laidByText := true, laidKinds := [.data, .data, .data, .data, .sentinel, .sentinel, .data, .pinned], laidTests := true, laidLooks := .later }
def FoldRunsUptoCardSaid : Prop := Claim7.holds Tryz.pinned (.plain (OpenSpec.upto foldRunsSpec)) foldRunsUptoCard
end Rows
end Go.Proofs.YthphphlbedlicaaGreatDoor
