/-
  DERIVED. GIVEN WITH THE SEED: THE CARDS: each row of YtpnnjfclmieihaaDoorRows.lean that lists a variable, with what it lists TIED to the program's text (the seventh form; the later family's looks); each row that meets fmt, with fmt's text TOLD by the authors' own Lean function (tested against real Go, not proved from fmt's source: count such statements apart). THE CARD IS WHAT COUNTS. Prove the row's statement (the work); the ties are given (YtpnnjfclmieihaaDoorTie.lean); close each card by the builder's one call (the guide's Derived/Test/ToyasCard.lean, 'card_holds'). Laid BY PROGRAM, IN A SANDBOX (cutbox-door.mjs). By AI agents, Wed Nov 11 2026. No macro, syntax, notation, axiom, sorry.
-/
import Derived.Test.YtpnnjfclmieihaaDoorRows
import GoSem.ClaimSeven
namespace Go.Proofs.YtpnnjfclmieihaaDoor
namespace Rows

/-- THE TIED CARD OF 'palaverlaw15.PowerTells'. -/
def powerTellsCard : Claim7 := { stood := { row := powerTellsRow, standIns := [], harness := (true, "8678dcc45845edd90458ccc542b7307e8727451b2c91e0ad5b653c20a8c08926"), looks := true }, kinds := [], alts := [], laidByText := true, laidKinds := [.data, .data, .data, .data, .sentinel, .sentinel, .data, .pinned], laidTests := true, laidLooks := .later }
def PowerTellsCardSaid : Prop := Claim7.holds Tryd.pinned (.plain (OpenSpec.ofChange powerTellsSpec)) powerTellsCard

/-- THE TIED CARD OF 'palaverlaw15.PowerChanges'. -/
def powerChangesCard : Claim7 := { stood := { row := powerChangesRow, standIns := [], harness := (true, "8678dcc45845edd90458ccc542b7307e8727451b2c91e0ad5b653c20a8c08926"), looks := true }, kinds := [], alts := [], laidByText := true, laidKinds := [.data, .data, .data, .data, .sentinel, .sentinel, .data, .pinned], laidTests := true, laidLooks := .later }
def PowerChangesCardSaid : Prop := Claim7.holds Tryd.pinned (.plain (OpenSpec.ofChange powerChangesSpec)) powerChangesCard

/-- THE TIED CARD OF 'palaverlaw15.PowerBack'. -/
def powerBackCard : Claim7 := { stood := { row := powerBackRow, standIns := [], harness := (true, "8678dcc45845edd90458ccc542b7307e8727451b2c91e0ad5b653c20a8c08926"), looks := true }, kinds := [], alts := [], laidByText := true, laidKinds := [.data, .data, .data, .data, .sentinel, .sentinel, .data, .pinned], laidTests := true, laidLooks := .later }
def PowerBackCardSaid : Prop := Claim7.holds Tryd.pinned (.plain (OpenSpec.ofChange powerBackSpec)) powerBackCard

/-- THE TIED CARD OF 'palaverlaw15.PowerNoHigher'. -/
def powerNoHigherCard : Claim7 := { stood := { row := powerNoHigherRow, standIns := [], harness := (true, "8678dcc45845edd90458ccc542b7307e8727451b2c91e0ad5b653c20a8c08926"), looks := true }, kinds := [], alts := [], laidByText := true, laidKinds := [.data, .data, .data, .data, .sentinel, .sentinel, .data, .pinned], laidTests := true, laidLooks := .later }
def PowerNoHigherCardSaid : Prop := Claim7.holds Tryd.pinned (.plain (OpenSpec.ofChange powerNoHigherSpec)) powerNoHigherCard

/-- THE TIED CARD OF 'palaverlaw14.StateSets'. -/
def stateSetsCard : Claim7 := { stood := { row := stateSetsRow, standIns := [], harness := (true, "8678dcc45845edd90458ccc542b7307e8727451b2c91e0ad5b653c20a8c08926"), looks := true }, kinds := [], alts := [], laidByText := true, laidKinds := [.data, .data, .data, .sentinel, .sentinel, .data], laidTests := true, laidLooks := .later }
def StateSetsCardSaid : Prop := Claim7.holds Tryd.pinned (.plain (OpenSpec.ofChange stateSetsSpec)) stateSetsCard

/-- THE TIED CARD OF 'palaverlaw14.StateAsks'. -/
def stateAsksCard : Claim7 := { stood := { row := stateAsksRow, standIns := [], harness := (true, "8678dcc45845edd90458ccc542b7307e8727451b2c91e0ad5b653c20a8c08926"), looks := true }, kinds := [], alts := [], laidByText := true, laidKinds := [.data, .data, .data, .sentinel, .sentinel, .data], laidTests := true, laidLooks := .later }
def StateAsksCardSaid : Prop := Claim7.holds Tryd.pinned (.plain (OpenSpec.ofChange stateAsksSpec)) stateAsksCard

/-- THE TIED CARD OF 'palaverlaw14.StateLast'. -/
def stateLastCard : Claim7 := { stood := { row := stateLastRow, standIns := [], harness := (true, "8678dcc45845edd90458ccc542b7307e8727451b2c91e0ad5b653c20a8c08926"), looks := true }, kinds := [], alts := [], laidByText := true, laidKinds := [.data, .data, .data, .sentinel, .sentinel, .data], laidTests := true, laidLooks := .later }
def StateLastCardSaid : Prop := Claim7.holds Tryd.pinned (.plain (OpenSpec.ofChange stateLastSpec)) stateLastCard

/-- THE SECOND FORM's CARD OF 'palaverlaw15.PowerTells'. -/
def powerTellsUptoCard : Claim7 := { stood := { row := powerTellsUptoRow, standIns := [], harness := (true, "8678dcc45845edd90458ccc542b7307e8727451b2c91e0ad5b653c20a8c08926"), looks := true }, kinds := [], alts := [], laidByText := true, laidKinds := [.data, .data, .data, .data, .sentinel, .sentinel, .data, .pinned], laidTests := true, laidLooks := .later }
def PowerTellsUptoCardSaid : Prop := Claim7.holds Tryd.pinned (.plain (OpenSpec.upto powerTellsSpec)) powerTellsUptoCard

/-- THE SECOND FORM's CARD OF 'palaverlaw15.PowerChanges'. -/
def powerChangesUptoCard : Claim7 := { stood := { row := powerChangesUptoRow, standIns := [], harness := (true, "8678dcc45845edd90458ccc542b7307e8727451b2c91e0ad5b653c20a8c08926"), looks := true }, kinds := [], alts := [], laidByText := true, laidKinds := [.data, .data, .data, .data, .sentinel, .sentinel, .data, .pinned], laidTests := true, laidLooks := .later }
def PowerChangesUptoCardSaid : Prop := Claim7.holds Tryd.pinned (.plain (OpenSpec.upto powerChangesSpec)) powerChangesUptoCard

/-- THE SECOND FORM's CARD OF 'palaverlaw15.PowerBack'. -/
def powerBackUptoCard : Claim7 := { stood := { row := powerBackUptoRow, standIns := [], harness := (true, "8678dcc45845edd90458ccc542b7307e8727451b2c91e0ad5b653c20a8c08926"), looks := true }, kinds := [], alts := [], laidByText := true, laidKinds := [.data, .data, .data, .data, .sentinel, .sentinel, .data, .pinned], laidTests := true, laidLooks := .later }
def PowerBackUptoCardSaid : Prop := Claim7.holds Tryd.pinned (.plain (OpenSpec.upto powerBackSpec)) powerBackUptoCard

/-- THE SECOND FORM's CARD OF 'palaverlaw15.PowerNoHigher'. -/
def powerNoHigherUptoCard : Claim7 := { stood := { row := powerNoHigherUptoRow, standIns := [], harness := (true, "8678dcc45845edd90458ccc542b7307e8727451b2c91e0ad5b653c20a8c08926"), looks := true }, kinds := [], alts := [], laidByText := true, laidKinds := [.data, .data, .data, .data, .sentinel, .sentinel, .data, .pinned], laidTests := true, laidLooks := .later }
def PowerNoHigherUptoCardSaid : Prop := Claim7.holds Tryd.pinned (.plain (OpenSpec.upto powerNoHigherSpec)) powerNoHigherUptoCard

/-- THE SECOND FORM's CARD OF 'palaverlaw14.StateSets'. -/
def stateSetsUptoCard : Claim7 := { stood := { row := stateSetsUptoRow, standIns := [], harness := (true, "8678dcc45845edd90458ccc542b7307e8727451b2c91e0ad5b653c20a8c08926"), looks := true }, kinds := [], alts := [], laidByText := true, laidKinds := [.data, .data, .data, .sentinel, .sentinel, .data], laidTests := true, laidLooks := .later }
def StateSetsUptoCardSaid : Prop := Claim7.holds Tryd.pinned (.plain (OpenSpec.upto stateSetsSpec)) stateSetsUptoCard

/-- THE SECOND FORM's CARD OF 'palaverlaw14.StateAsks'. -/
def stateAsksUptoCard : Claim7 := { stood := { row := stateAsksUptoRow, standIns := [], harness := (true, "8678dcc45845edd90458ccc542b7307e8727451b2c91e0ad5b653c20a8c08926"), looks := true }, kinds := [], alts := [], laidByText := true, laidKinds := [.data, .data, .data, .sentinel, .sentinel, .data], laidTests := true, laidLooks := .later }
def StateAsksUptoCardSaid : Prop := Claim7.holds Tryd.pinned (.plain (OpenSpec.upto stateAsksSpec)) stateAsksUptoCard

/-- THE SECOND FORM's CARD OF 'palaverlaw14.StateLast'. -/
def stateLastUptoCard : Claim7 := { stood := { row := stateLastUptoRow, standIns := [], harness := (true, "8678dcc45845edd90458ccc542b7307e8727451b2c91e0ad5b653c20a8c08926"), looks := true }, kinds := [], alts := [], laidByText := true, laidKinds := [.data, .data, .data, .sentinel, .sentinel, .data], laidTests := true, laidLooks := .later }
def StateLastUptoCardSaid : Prop := Claim7.holds Tryd.pinned (.plain (OpenSpec.upto stateLastSpec)) stateLastUptoCard
end Rows
end Go.Proofs.YtpnnjfclmieihaaDoor
