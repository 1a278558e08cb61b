/-
  DERIVED. GIVEN WITH THE SEED: THE CARDS: each row of YtcdnpmpjeeiapaaDoorRows.lean that lists a variable, with what it lists TIED to the program's text (the seventh form; the later family's looks); each row that meets fmt, with fmt's text TOLD by the authors' own Lean function (tested against real Go, not proved from fmt's source: count such statements apart). THE CARD IS WHAT COUNTS. Prove the row's statement (the work); the ties are given (YtcdnpmpjeeiapaaDoorTie.lean); close each card by the builder's one call (the guide's Derived/Test/ToyasCard.lean, 'card_holds'). Laid BY PROGRAM, IN A SANDBOX (cutbox-door.mjs). By AI agents, Wed Nov 11 2026. No macro, syntax, notation, axiom, sorry.
-/
import Derived.Test.YtcdnpmpjeeiapaaDoorRows
import GoSem.ClaimSeven
namespace Go.Proofs.YtcdnpmpjeeiapaaDoor
namespace Rows

/-- THE TIED CARD OF 'palaverlaw41.RotateTells'. -/
def rotateTellsCard : Claim7 := { stood := { row := rotateTellsRow, standIns := [], harness := (true, "6af95d9cde7bae62474a2b05ec33dbf7b43856fa7a8b2ee35661a02814f109b2"), looks := true }, kinds := [], alts := [], laidByText := true, laidKinds := [.data, .data], laidTests := true, laidLooks := .later }
def RotateTellsCardSaid : Prop := Claim7.holds Tryd.pinned (.plain (OpenSpec.ofChange rotateTellsSpec)) rotateTellsCard

/-- THE TIED CARD OF 'palaverlaw41.RotateBehind'. -/
def rotateBehindCard : Claim7 := { stood := { row := rotateBehindRow, standIns := [], harness := (true, "6af95d9cde7bae62474a2b05ec33dbf7b43856fa7a8b2ee35661a02814f109b2"), looks := true }, kinds := [], alts := [], laidByText := true, laidKinds := [.data, .data], laidTests := true, laidLooks := .later }
def RotateBehindCardSaid : Prop := Claim7.holds Tryd.pinned (.plain (OpenSpec.ofChange rotateBehindSpec)) rotateBehindCard

/-- THE TIED CARD OF 'palaverlaw41.RotateBack'. -/
def rotateBackCard : Claim7 := { stood := { row := rotateBackRow, standIns := [], harness := (true, "6af95d9cde7bae62474a2b05ec33dbf7b43856fa7a8b2ee35661a02814f109b2"), looks := true }, kinds := [], alts := [], laidByText := true, laidKinds := [.data, .data], laidTests := true, laidLooks := .later }
def RotateBackCardSaid : Prop := Claim7.holds Tryd.pinned (.plain (OpenSpec.ofChange rotateBackSpec)) rotateBackCard

/-- THE TIED CARD OF 'palaverlaw15.PowerTells'. -/
def powerTellsCard : Claim7 := { stood := { row := powerTellsRow, standIns := [], harness := (true, "6af95d9cde7bae62474a2b05ec33dbf7b43856fa7a8b2ee35661a02814f109b2"), looks := true }, kinds := [], alts := [], laidByText := true, laidKinds := [.data, .data, .data, .data, .sentinel, .sentinel, .data, .pinned], laidTests := true, laidLooks := .later }
def PowerTellsCardSaid : Prop := Claim7.holds Tryd.pinned (.plain (OpenSpec.ofChange powerTellsSpec)) powerTellsCard

/-- THE TIED CARD OF 'palaverlaw15.PowerChanges'. -/
def powerChangesCard : Claim7 := { stood := { row := powerChangesRow, standIns := [], harness := (true, "6af95d9cde7bae62474a2b05ec33dbf7b43856fa7a8b2ee35661a02814f109b2"), looks := true }, kinds := [], alts := [], laidByText := true, laidKinds := [.data, .data, .data, .data, .sentinel, .sentinel, .data, .pinned], laidTests := true, laidLooks := .later }
def PowerChangesCardSaid : Prop := Claim7.holds Tryd.pinned (.plain (OpenSpec.ofChange powerChangesSpec)) powerChangesCard

/-- THE TIED CARD OF 'palaverlaw15.PowerBack'. -/
def powerBackCard : Claim7 := { stood := { row := powerBackRow, standIns := [], harness := (true, "6af95d9cde7bae62474a2b05ec33dbf7b43856fa7a8b2ee35661a02814f109b2"), looks := true }, kinds := [], alts := [], laidByText := true, laidKinds := [.data, .data, .data, .data, .sentinel, .sentinel, .data, .pinned], laidTests := true, laidLooks := .later }
def PowerBackCardSaid : Prop := Claim7.holds Tryd.pinned (.plain (OpenSpec.ofChange powerBackSpec)) powerBackCard

/-- THE TIED CARD OF 'palaverlaw15.PowerNoHigher'. -/
def powerNoHigherCard : Claim7 := { stood := { row := powerNoHigherRow, standIns := [], harness := (true, "6af95d9cde7bae62474a2b05ec33dbf7b43856fa7a8b2ee35661a02814f109b2"), looks := true }, kinds := [], alts := [], laidByText := true, laidKinds := [.data, .data, .data, .data, .sentinel, .sentinel, .data, .pinned], laidTests := true, laidLooks := .later }
def PowerNoHigherCardSaid : Prop := Claim7.holds Tryd.pinned (.plain (OpenSpec.ofChange powerNoHigherSpec)) powerNoHigherCard

/-- THE TIED CARD OF 'palaverlaw14.StateSets'. -/
def stateSetsCard : Claim7 := { stood := { row := stateSetsRow, standIns := [], harness := (true, "6af95d9cde7bae62474a2b05ec33dbf7b43856fa7a8b2ee35661a02814f109b2"), looks := true }, kinds := [], alts := [], laidByText := true, laidKinds := [.data, .data, .data, .sentinel, .sentinel, .data], laidTests := true, laidLooks := .later }
def StateSetsCardSaid : Prop := Claim7.holds Tryd.pinned (.plain (OpenSpec.ofChange stateSetsSpec)) stateSetsCard

/-- THE TIED CARD OF 'palaverlaw14.StateAsks'. -/
def stateAsksCard : Claim7 := { stood := { row := stateAsksRow, standIns := [], harness := (true, "6af95d9cde7bae62474a2b05ec33dbf7b43856fa7a8b2ee35661a02814f109b2"), looks := true }, kinds := [], alts := [], laidByText := true, laidKinds := [.data, .data, .data, .sentinel, .sentinel, .data], laidTests := true, laidLooks := .later }
def StateAsksCardSaid : Prop := Claim7.holds Tryd.pinned (.plain (OpenSpec.ofChange stateAsksSpec)) stateAsksCard

/-- THE TIED CARD OF 'palaverlaw14.StateLast'. -/
def stateLastCard : Claim7 := { stood := { row := stateLastRow, standIns := [], harness := (true, "6af95d9cde7bae62474a2b05ec33dbf7b43856fa7a8b2ee35661a02814f109b2"), looks := true }, kinds := [], alts := [], laidByText := true, laidKinds := [.data, .data, .data, .sentinel, .sentinel, .data], laidTests := true, laidLooks := .later }
def StateLastCardSaid : Prop := Claim7.holds Tryd.pinned (.plain (OpenSpec.ofChange stateLastSpec)) stateLastCard

/-- THE SECOND FORM's CARD OF 'palaverlaw41.RotateTells'. -/
def rotateTellsUptoCard : Claim7 := { stood := { row := rotateTellsUptoRow, standIns := [], harness := (true, "6af95d9cde7bae62474a2b05ec33dbf7b43856fa7a8b2ee35661a02814f109b2"), looks := true }, kinds := [], alts := [], laidByText := true, laidKinds := [.data, .data], laidTests := true, laidLooks := .later }
def RotateTellsUptoCardSaid : Prop := Claim7.holds Tryd.pinned (.plain (OpenSpec.upto rotateTellsSpec)) rotateTellsUptoCard

/-- THE SECOND FORM's CARD OF 'palaverlaw41.RotateBehind'. -/
def rotateBehindUptoCard : Claim7 := { stood := { row := rotateBehindUptoRow, standIns := [], harness := (true, "6af95d9cde7bae62474a2b05ec33dbf7b43856fa7a8b2ee35661a02814f109b2"), looks := true }, kinds := [], alts := [], laidByText := true, laidKinds := [.data, .data], laidTests := true, laidLooks := .later }
def RotateBehindUptoCardSaid : Prop := Claim7.holds Tryd.pinned (.plain (OpenSpec.upto rotateBehindSpec)) rotateBehindUptoCard

/-- THE SECOND FORM's CARD OF 'palaverlaw41.RotateBack'. -/
def rotateBackUptoCard : Claim7 := { stood := { row := rotateBackUptoRow, standIns := [], harness := (true, "6af95d9cde7bae62474a2b05ec33dbf7b43856fa7a8b2ee35661a02814f109b2"), looks := true }, kinds := [], alts := [], laidByText := true, laidKinds := [.data, .data], laidTests := true, laidLooks := .later }
def RotateBackUptoCardSaid : Prop := Claim7.holds Tryd.pinned (.plain (OpenSpec.upto rotateBackSpec)) rotateBackUptoCard

/-- THE SECOND FORM's CARD OF 'palaverlaw15.PowerTells'. -/
def powerTellsUptoCard : Claim7 := { stood := { row := powerTellsUptoRow, standIns := [], harness := (true, "6af95d9cde7bae62474a2b05ec33dbf7b43856fa7a8b2ee35661a02814f109b2"), looks := true }, kinds := [], alts := [], laidByText := true, laidKinds := [.data, .data, .data, .data, .sentinel, .sentinel, .data, .pinned], laidTests := true, laidLooks := .later }
def PowerTellsUptoCardSaid : Prop := Claim7.holds Tryd.pinned (.plain (OpenSpec.upto powerTellsSpec)) powerTellsUptoCard

/-- THE SECOND FORM's CARD OF 'palaverlaw15.PowerChanges'. -/
def powerChangesUptoCard : Claim7 := { stood := { row := powerChangesUptoRow, standIns := [], harness := (true, "6af95d9cde7bae62474a2b05ec33dbf7b43856fa7a8b2ee35661a02814f109b2"), looks := true }, kinds := [], alts := [], laidByText := true, laidKinds := [.data, .data, .data, .data, .sentinel, .sentinel, .data, .pinned], laidTests := true, laidLooks := .later }
def PowerChangesUptoCardSaid : Prop := Claim7.holds Tryd.pinned (.plain (OpenSpec.upto powerChangesSpec)) powerChangesUptoCard

/-- THE SECOND FORM's CARD OF 'palaverlaw15.PowerBack'. -/
def powerBackUptoCard : Claim7 := { stood := { row := powerBackUptoRow, standIns := [], harness := (true, "6af95d9cde7bae62474a2b05ec33dbf7b43856fa7a8b2ee35661a02814f109b2"), looks := true }, kinds := [], alts := [], laidByText := true, laidKinds := [.data, .data, .data, .data, .sentinel, .sentinel, .data, .pinned], laidTests := true, laidLooks := .later }
def PowerBackUptoCardSaid : Prop := Claim7.holds Tryd.pinned (.plain (OpenSpec.upto powerBackSpec)) powerBackUptoCard

/-- THE SECOND FORM's CARD OF 'palaverlaw15.PowerNoHigher'. -/
def powerNoHigherUptoCard : Claim7 := { stood := { row := powerNoHigherUptoRow, standIns := [], harness := (true, "6af95d9cde7bae62474a2b05ec33dbf7b43856fa7a8b2ee35661a02814f109b2"), looks := true }, kinds := [], alts := [], laidByText := true, laidKinds := [.data, .data, .data, .data, .sentinel, .sentinel, .data, .pinned], laidTests := true, laidLooks := .later }
def PowerNoHigherUptoCardSaid : Prop := Claim7.holds Tryd.pinned (.plain (OpenSpec.upto powerNoHigherSpec)) powerNoHigherUptoCard

/-- THE SECOND FORM's CARD OF 'palaverlaw14.StateSets'. -/
def stateSetsUptoCard : Claim7 := { stood := { row := stateSetsUptoRow, standIns := [], harness := (true, "6af95d9cde7bae62474a2b05ec33dbf7b43856fa7a8b2ee35661a02814f109b2"), looks := true }, kinds := [], alts := [], laidByText := true, laidKinds := [.data, .data, .data, .sentinel, .sentinel, .data], laidTests := true, laidLooks := .later }
def StateSetsUptoCardSaid : Prop := Claim7.holds Tryd.pinned (.plain (OpenSpec.upto stateSetsSpec)) stateSetsUptoCard

/-- THE SECOND FORM's CARD OF 'palaverlaw14.StateAsks'. -/
def stateAsksUptoCard : Claim7 := { stood := { row := stateAsksUptoRow, standIns := [], harness := (true, "6af95d9cde7bae62474a2b05ec33dbf7b43856fa7a8b2ee35661a02814f109b2"), looks := true }, kinds := [], alts := [], laidByText := true, laidKinds := [.data, .data, .data, .sentinel, .sentinel, .data], laidTests := true, laidLooks := .later }
def StateAsksUptoCardSaid : Prop := Claim7.holds Tryd.pinned (.plain (OpenSpec.upto stateAsksSpec)) stateAsksUptoCard

/-- THE SECOND FORM's CARD OF 'palaverlaw14.StateLast'. -/
def stateLastUptoCard : Claim7 := { stood := { row := stateLastUptoRow, standIns := [], harness := (true, "6af95d9cde7bae62474a2b05ec33dbf7b43856fa7a8b2ee35661a02814f109b2"), looks := true }, kinds := [], alts := [], laidByText := true, laidKinds := [.data, .data, .data, .sentinel, .sentinel, .data], laidTests := true, laidLooks := .later }
def StateLastUptoCardSaid : Prop := Claim7.holds Tryd.pinned (.plain (OpenSpec.upto stateLastSpec)) stateLastUptoCard
end Rows
end Go.Proofs.YtcdnpmpjeeiapaaDoor
