/-
  DERIVED. GIVEN WITH THE SEED: THE CARDS: each row of YtedioenakmgdiaaDoorRows.lean that lists a variable, with what it lists TIED to the program's text (the seventh form; the later family's looks); each row that meets fmt, with fmt's text TOLD by the authors' own Lean function (tested against real Go, not proved from fmt's source: count such statements apart). THE CARD IS WHAT COUNTS. Prove the row's statement (the work); the ties are given (YtedioenakmgdiaaDoorTie.lean); close each card by the builder's one call (the guide's Derived/Test/ToyasCard.lean, 'card_holds'). Laid BY PROGRAM, IN A SANDBOX (cutbox-door.mjs). By AI agents, Wed Nov 11 2026. No macro, syntax, notation, axiom, sorry.
-/
import Derived.Test.YtedioenakmgdiaaDoorRows
import GoSem.ClaimSeven
namespace Go.Proofs.YtedioenakmgdiaaDoor
namespace Rows

/-- THE TIED CARD OF 'palaverlaw03.TreeRoots'. -/
def treeRootsCard : Claim7 := { stood := { row := treeRootsRow, standIns := [], harness := (true, "e8af41b3f320a8c603249690cce91840da2a5917687ebe47f595a14ee7b93563"), looks := false }, kinds := [], alts := [], laidByText := true, laidKinds := [.data, .data], laidTests := true, laidLooks := .later }
def TreeRootsCardSaid : Prop := Claim7.holds Tryd.pinned (.plain (OpenSpec.ofChange treeRootsSpec)) treeRootsCard

/-- THE TIED CARD OF 'palaverlaw03.TreeClimbs'. -/
def treeClimbsCard : Claim7 := { stood := { row := treeClimbsRow, standIns := [], harness := (true, "e8af41b3f320a8c603249690cce91840da2a5917687ebe47f595a14ee7b93563"), looks := false }, kinds := [], alts := [], laidByText := true, laidKinds := [.data, .data], laidTests := true, laidLooks := .later }
def TreeClimbsCardSaid : Prop := Claim7.holds Tryd.pinned (.plain (OpenSpec.ofChange treeClimbsSpec)) treeClimbsCard

/-- THE TIED CARD OF 'palaverlaw03.TreeThere'. -/
def treeThereCard : Claim7 := { stood := { row := treeThereRow, standIns := [], harness := (true, "e8af41b3f320a8c603249690cce91840da2a5917687ebe47f595a14ee7b93563"), looks := false }, kinds := [], alts := [], laidByText := true, laidKinds := [.data, .data], laidTests := true, laidLooks := .later }
def TreeThereCardSaid : Prop := Claim7.holds Tryd.pinned (.plain (OpenSpec.ofChange treeThereSpec)) treeThereCard

/-- THE TIED CARD OF 'palaverlaw03.TreeOther'. -/
def treeOtherCard : Claim7 := { stood := { row := treeOtherRow, standIns := [], harness := (true, "e8af41b3f320a8c603249690cce91840da2a5917687ebe47f595a14ee7b93563"), looks := false }, kinds := [], alts := [], laidByText := true, laidKinds := [.data, .data], laidTests := true, laidLooks := .later }
def TreeOtherCardSaid : Prop := Claim7.holds Tryd.pinned (.plain (OpenSpec.ofChange treeOtherSpec)) treeOtherCard

/-- THE TIED CARD OF 'palaverlaw05.KeySigns'. -/
def keySignsCard : Claim7 := { stood := { row := keySignsRow, standIns := [], harness := (true, "e8af41b3f320a8c603249690cce91840da2a5917687ebe47f595a14ee7b93563"), looks := false }, kinds := [], alts := [], laidByText := true, laidKinds := [.data, .data], laidTests := true, laidLooks := .later }
def KeySignsCardSaid : Prop := Claim7.holds Tryd.pinned (.plain (OpenSpec.ofChange keySignsSpec)) keySignsCard

/-- THE TIED CARD OF 'palaverlaw05.KeyVerifies'. -/
def keyVerifiesCard : Claim7 := { stood := { row := keyVerifiesRow, standIns := [], harness := (true, "e8af41b3f320a8c603249690cce91840da2a5917687ebe47f595a14ee7b93563"), looks := false }, kinds := [], alts := [], laidByText := true, laidKinds := [.data, .data], laidTests := true, laidLooks := .later }
def KeyVerifiesCardSaid : Prop := Claim7.holds Tryd.pinned (.plain (OpenSpec.ofChange keyVerifiesSpec)) keyVerifiesCard

/-- THE TIED CARD OF 'palaverlaw05.KeyBack'. -/
def keyBackCard : Claim7 := { stood := { row := keyBackRow, standIns := [], harness := (true, "e8af41b3f320a8c603249690cce91840da2a5917687ebe47f595a14ee7b93563"), looks := false }, kinds := [], alts := [], laidByText := true, laidKinds := [.data, .data], laidTests := true, laidLooks := .later }
def KeyBackCardSaid : Prop := Claim7.holds Tryd.pinned (.plain (OpenSpec.ofChange keyBackSpec)) keyBackCard

/-- THE TIED CARD OF 'palaverlaw05.KeyRings'. -/
def keyRingsCard : Claim7 := { stood := { row := keyRingsRow, standIns := [], harness := (true, "e8af41b3f320a8c603249690cce91840da2a5917687ebe47f595a14ee7b93563"), looks := false }, kinds := [], alts := [], laidByText := true, laidKinds := [.data, .data], laidTests := true, laidLooks := .later }
def KeyRingsCardSaid : Prop := Claim7.holds Tryd.pinned (.plain (OpenSpec.ofChange keyRingsSpec)) keyRingsCard

/-- THE TIED CARD OF 'palaverlaw06.BookAdds'. -/
def bookAddsCard : Claim7 := { stood := { row := bookAddsRow, standIns := [], harness := (true, "e8af41b3f320a8c603249690cce91840da2a5917687ebe47f595a14ee7b93563"), looks := false }, kinds := [], alts := [], laidByText := true, laidKinds := [.data, .data], laidTests := true, laidLooks := .later }
def BookAddsCardSaid : Prop := Claim7.holds Tryd.pinned (.plain (OpenSpec.ofChange bookAddsSpec)) bookAddsCard

/-- THE TIED CARD OF 'palaverlaw06.BookFinds'. -/
def bookFindsCard : Claim7 := { stood := { row := bookFindsRow, standIns := [], harness := (true, "e8af41b3f320a8c603249690cce91840da2a5917687ebe47f595a14ee7b93563"), looks := false }, kinds := [], alts := [], laidByText := true, laidKinds := [.data, .data], laidTests := true, laidLooks := .later }
def BookFindsCardSaid : Prop := Claim7.holds Tryd.pinned (.plain (OpenSpec.ofChange bookFindsSpec)) bookFindsCard

/-- THE TIED CARD OF 'palaverlaw06.BookOne'. -/
def bookOneCard : Claim7 := { stood := { row := bookOneRow, standIns := [], harness := (true, "e8af41b3f320a8c603249690cce91840da2a5917687ebe47f595a14ee7b93563"), looks := false }, kinds := [], alts := [], laidByText := true, laidKinds := [.data, .data], laidTests := true, laidLooks := .later }
def BookOneCardSaid : Prop := Claim7.holds Tryd.pinned (.plain (OpenSpec.ofChange bookOneSpec)) bookOneCard

/-- THE SECOND FORM's CARD OF 'palaverlaw03.TreeRoots'. -/
def treeRootsUptoCard : Claim7 := { stood := { row := treeRootsUptoRow, standIns := [], harness := (true, "e8af41b3f320a8c603249690cce91840da2a5917687ebe47f595a14ee7b93563"), looks := false }, kinds := [], alts := [], laidByText := true, laidKinds := [.data, .data], laidTests := true, laidLooks := .later }
def TreeRootsUptoCardSaid : Prop := Claim7.holds Tryd.pinned (.plain (OpenSpec.upto treeRootsSpec)) treeRootsUptoCard

/-- THE SECOND FORM's CARD OF 'palaverlaw03.TreeClimbs'. -/
def treeClimbsUptoCard : Claim7 := { stood := { row := treeClimbsUptoRow, standIns := [], harness := (true, "e8af41b3f320a8c603249690cce91840da2a5917687ebe47f595a14ee7b93563"), looks := false }, kinds := [], alts := [], laidByText := true, laidKinds := [.data, .data], laidTests := true, laidLooks := .later }
def TreeClimbsUptoCardSaid : Prop := Claim7.holds Tryd.pinned (.plain (OpenSpec.upto treeClimbsSpec)) treeClimbsUptoCard

/-- THE SECOND FORM's CARD OF 'palaverlaw03.TreeThere'. -/
def treeThereUptoCard : Claim7 := { stood := { row := treeThereUptoRow, standIns := [], harness := (true, "e8af41b3f320a8c603249690cce91840da2a5917687ebe47f595a14ee7b93563"), looks := false }, kinds := [], alts := [], laidByText := true, laidKinds := [.data, .data], laidTests := true, laidLooks := .later }
def TreeThereUptoCardSaid : Prop := Claim7.holds Tryd.pinned (.plain (OpenSpec.upto treeThereSpec)) treeThereUptoCard

/-- THE SECOND FORM's CARD OF 'palaverlaw03.TreeOther'. -/
def treeOtherUptoCard : Claim7 := { stood := { row := treeOtherUptoRow, standIns := [], harness := (true, "e8af41b3f320a8c603249690cce91840da2a5917687ebe47f595a14ee7b93563"), looks := false }, kinds := [], alts := [], laidByText := true, laidKinds := [.data, .data], laidTests := true, laidLooks := .later }
def TreeOtherUptoCardSaid : Prop := Claim7.holds Tryd.pinned (.plain (OpenSpec.upto treeOtherSpec)) treeOtherUptoCard

/-- THE SECOND FORM's CARD OF 'palaverlaw05.KeySigns'. -/
def keySignsUptoCard : Claim7 := { stood := { row := keySignsUptoRow, standIns := [], harness := (true, "e8af41b3f320a8c603249690cce91840da2a5917687ebe47f595a14ee7b93563"), looks := false }, kinds := [], alts := [], laidByText := true, laidKinds := [.data, .data], laidTests := true, laidLooks := .later }
def KeySignsUptoCardSaid : Prop := Claim7.holds Tryd.pinned (.plain (OpenSpec.upto keySignsSpec)) keySignsUptoCard

/-- THE SECOND FORM's CARD OF 'palaverlaw05.KeyVerifies'. -/
def keyVerifiesUptoCard : Claim7 := { stood := { row := keyVerifiesUptoRow, standIns := [], harness := (true, "e8af41b3f320a8c603249690cce91840da2a5917687ebe47f595a14ee7b93563"), looks := false }, kinds := [], alts := [], laidByText := true, laidKinds := [.data, .data], laidTests := true, laidLooks := .later }
def KeyVerifiesUptoCardSaid : Prop := Claim7.holds Tryd.pinned (.plain (OpenSpec.upto keyVerifiesSpec)) keyVerifiesUptoCard

/-- THE SECOND FORM's CARD OF 'palaverlaw05.KeyBack'. -/
def keyBackUptoCard : Claim7 := { stood := { row := keyBackUptoRow, standIns := [], harness := (true, "e8af41b3f320a8c603249690cce91840da2a5917687ebe47f595a14ee7b93563"), looks := false }, kinds := [], alts := [], laidByText := true, laidKinds := [.data, .data], laidTests := true, laidLooks := .later }
def KeyBackUptoCardSaid : Prop := Claim7.holds Tryd.pinned (.plain (OpenSpec.upto keyBackSpec)) keyBackUptoCard

/-- THE SECOND FORM's CARD OF 'palaverlaw05.KeyRings'. -/
def keyRingsUptoCard : Claim7 := { stood := { row := keyRingsUptoRow, standIns := [], harness := (true, "e8af41b3f320a8c603249690cce91840da2a5917687ebe47f595a14ee7b93563"), looks := false }, kinds := [], alts := [], laidByText := true, laidKinds := [.data, .data], laidTests := true, laidLooks := .later }
def KeyRingsUptoCardSaid : Prop := Claim7.holds Tryd.pinned (.plain (OpenSpec.upto keyRingsSpec)) keyRingsUptoCard

/-- THE SECOND FORM's CARD OF 'palaverlaw06.BookAdds'. -/
def bookAddsUptoCard : Claim7 := { stood := { row := bookAddsUptoRow, standIns := [], harness := (true, "e8af41b3f320a8c603249690cce91840da2a5917687ebe47f595a14ee7b93563"), looks := false }, kinds := [], alts := [], laidByText := true, laidKinds := [.data, .data], laidTests := true, laidLooks := .later }
def BookAddsUptoCardSaid : Prop := Claim7.holds Tryd.pinned (.plain (OpenSpec.upto bookAddsSpec)) bookAddsUptoCard

/-- THE SECOND FORM's CARD OF 'palaverlaw06.BookFinds'. -/
def bookFindsUptoCard : Claim7 := { stood := { row := bookFindsUptoRow, standIns := [], harness := (true, "e8af41b3f320a8c603249690cce91840da2a5917687ebe47f595a14ee7b93563"), looks := false }, kinds := [], alts := [], laidByText := true, laidKinds := [.data, .data], laidTests := true, laidLooks := .later }
def BookFindsUptoCardSaid : Prop := Claim7.holds Tryd.pinned (.plain (OpenSpec.upto bookFindsSpec)) bookFindsUptoCard

/-- THE SECOND FORM's CARD OF 'palaverlaw06.BookOne'. -/
def bookOneUptoCard : Claim7 := { stood := { row := bookOneUptoRow, standIns := [], harness := (true, "e8af41b3f320a8c603249690cce91840da2a5917687ebe47f595a14ee7b93563"), looks := false }, kinds := [], alts := [], laidByText := true, laidKinds := [.data, .data], laidTests := true, laidLooks := .later }
def BookOneUptoCardSaid : Prop := Claim7.holds Tryd.pinned (.plain (OpenSpec.upto bookOneSpec)) bookOneUptoCard
end Rows
end Go.Proofs.YtedioenakmgdiaaDoor
