/-
  DERIVED. GIVEN WITH THE SEED: THE CARDS: each row of YtlhdeplkmghniaaDoorRows.lean that lists a variable, with what it lists TIED to the program's text (the seventh form; the later family's looks); each row that meets fmt, with fmt's text TOLD by the authors' own Lean function (tested against real Go, not proved from fmt's source: count such statements apart). THE CARD IS WHAT COUNTS. Prove the row's statement (the work); the ties are given (YtlhdeplkmghniaaDoorTie.lean); close each card by the builder's one call (the guide's Derived/Test/ToyasCard.lean, 'card_holds'). Laid BY PROGRAM, IN A SANDBOX (cutbox-door.mjs). By AI agents, Wed Nov 11 2026. No macro, syntax, notation, axiom, sorry.
-/
import Derived.Test.YtlhdeplkmghniaaDoorRows
import GoSem.ClaimSeven
namespace Go.Proofs.YtlhdeplkmghniaaDoor
namespace Rows

/-- THE TIED CARD OF 'palaverlaw31.ScriptLines'. -/
def scriptLinesCard : Claim7 := { stood := { row := scriptLinesRow, standIns := [], harness := (true, "a8c48acd4f00d7bcdc363b3342984c5bd075dd0d53b21e694921dc113564a9b8"), looks := true }, kinds := [], alts := [], laidByText := true, laidKinds := [.data, .data, .data, .data, .sentinel, .sentinel, .data, .pinned], laidTests := true, laidLooks := .later }
def ScriptLinesCardSaid : Prop := Claim7.holds Tryd.pinned (.plain (OpenSpec.ofChange scriptLinesSpec)) scriptLinesCard

/-- THE TIED CARD OF 'palaverlaw31.ScriptTexts'. -/
def scriptTextsCard : Claim7 := { stood := { row := scriptTextsRow, standIns := [], harness := (true, "a8c48acd4f00d7bcdc363b3342984c5bd075dd0d53b21e694921dc113564a9b8"), looks := true }, kinds := [], alts := [], laidByText := true, laidKinds := [.data, .data, .data, .data, .sentinel, .sentinel, .data, .pinned], laidTests := true, laidLooks := .later }
def ScriptTextsCardSaid : Prop := Claim7.holds Tryd.pinned (.plain (OpenSpec.ofChange scriptTextsSpec)) scriptTextsCard

/-- THE TIED CARD OF 'palaverlaw31.ScriptBack'. -/
def scriptBackCard : Claim7 := { stood := { row := scriptBackRow, standIns := [], harness := (true, "a8c48acd4f00d7bcdc363b3342984c5bd075dd0d53b21e694921dc113564a9b8"), looks := true }, kinds := [], alts := [], laidByText := true, laidKinds := [.data, .data, .data, .data, .sentinel, .sentinel, .data, .pinned], laidTests := true, laidLooks := .later }
def ScriptBackCardSaid : Prop := Claim7.holds Tryd.pinned (.plain (OpenSpec.ofChange scriptBackSpec)) scriptBackCard

/-- THE TIED CARD OF 'palaverlaw42.SearchPlays'. -/
def searchPlaysCard : Claim7 := { stood := { row := searchPlaysRow, standIns := [], harness := (true, "a8c48acd4f00d7bcdc363b3342984c5bd075dd0d53b21e694921dc113564a9b8"), looks := true }, kinds := [], alts := [], laidByText := true, laidKinds := [.data, .pinned], laidTests := true, laidLooks := .later }
def SearchPlaysCardSaid : Prop := Claim7.holds Tryd.pinned (.plain (OpenSpec.ofChange searchPlaysSpec)) searchPlaysCard

/-- THE TIED CARD OF 'palaverlaw42.SearchWords'. -/
def searchWordsCard : Claim7 := { stood := { row := searchWordsRow, standIns := [], harness := (true, "a8c48acd4f00d7bcdc363b3342984c5bd075dd0d53b21e694921dc113564a9b8"), looks := true }, kinds := [], alts := [], laidByText := true, laidKinds := [.data, .pinned], laidTests := true, laidLooks := .later }
def SearchWordsCardSaid : Prop := Claim7.holds Tryd.pinned (.plain (OpenSpec.ofChange searchWordsSpec)) searchWordsCard

/-- THE TIED CARD OF 'palaverlaw42.SearchFinds'. -/
def searchFindsCard : Claim7 := { stood := { row := searchFindsRow, standIns := [], harness := (true, "a8c48acd4f00d7bcdc363b3342984c5bd075dd0d53b21e694921dc113564a9b8"), looks := true }, kinds := [], alts := [], laidByText := true, laidKinds := [.data, .pinned], laidTests := true, laidLooks := .later }
def SearchFindsCardSaid : Prop := Claim7.holds Tryd.pinned (.plain (OpenSpec.ofChange searchFindsSpec)) searchFindsCard

/-- THE SECOND FORM's CARD OF 'palaverlaw31.ScriptLines'. -/
def scriptLinesUptoCard : Claim7 := { stood := { row := scriptLinesUptoRow, standIns := [], harness := (true, "a8c48acd4f00d7bcdc363b3342984c5bd075dd0d53b21e694921dc113564a9b8"), looks := true }, kinds := [], alts := [], laidByText := true, laidKinds := [.data, .data, .data, .data, .sentinel, .sentinel, .data, .pinned], laidTests := true, laidLooks := .later }
def ScriptLinesUptoCardSaid : Prop := Claim7.holds Tryd.pinned (.plain (OpenSpec.upto scriptLinesSpec)) scriptLinesUptoCard

/-- THE SECOND FORM's CARD OF 'palaverlaw31.ScriptTexts'. -/
def scriptTextsUptoCard : Claim7 := { stood := { row := scriptTextsUptoRow, standIns := [], harness := (true, "a8c48acd4f00d7bcdc363b3342984c5bd075dd0d53b21e694921dc113564a9b8"), looks := true }, kinds := [], alts := [], laidByText := true, laidKinds := [.data, .data, .data, .data, .sentinel, .sentinel, .data, .pinned], laidTests := true, laidLooks := .later }
def ScriptTextsUptoCardSaid : Prop := Claim7.holds Tryd.pinned (.plain (OpenSpec.upto scriptTextsSpec)) scriptTextsUptoCard

/-- THE SECOND FORM's CARD OF 'palaverlaw31.ScriptBack'. -/
def scriptBackUptoCard : Claim7 := { stood := { row := scriptBackUptoRow, standIns := [], harness := (true, "a8c48acd4f00d7bcdc363b3342984c5bd075dd0d53b21e694921dc113564a9b8"), looks := true }, kinds := [], alts := [], laidByText := true, laidKinds := [.data, .data, .data, .data, .sentinel, .sentinel, .data, .pinned], laidTests := true, laidLooks := .later }
def ScriptBackUptoCardSaid : Prop := Claim7.holds Tryd.pinned (.plain (OpenSpec.upto scriptBackSpec)) scriptBackUptoCard

/-- THE SECOND FORM's CARD OF 'palaverlaw42.SearchPlays'. -/
def searchPlaysUptoCard : Claim7 := { stood := { row := searchPlaysUptoRow, standIns := [], harness := (true, "a8c48acd4f00d7bcdc363b3342984c5bd075dd0d53b21e694921dc113564a9b8"), looks := true }, kinds := [], alts := [], laidByText := true, laidKinds := [.data, .pinned], laidTests := true, laidLooks := .later }
def SearchPlaysUptoCardSaid : Prop := Claim7.holds Tryd.pinned (.plain (OpenSpec.upto searchPlaysSpec)) searchPlaysUptoCard

/-- THE SECOND FORM's CARD OF 'palaverlaw42.SearchWords'. -/
def searchWordsUptoCard : Claim7 := { stood := { row := searchWordsUptoRow, standIns := [], harness := (true, "a8c48acd4f00d7bcdc363b3342984c5bd075dd0d53b21e694921dc113564a9b8"), looks := true }, kinds := [], alts := [], laidByText := true, laidKinds := [.data, .pinned], laidTests := true, laidLooks := .later }
def SearchWordsUptoCardSaid : Prop := Claim7.holds Tryd.pinned (.plain (OpenSpec.upto searchWordsSpec)) searchWordsUptoCard

/-- THE SECOND FORM's CARD OF 'palaverlaw42.SearchFinds'. -/
def searchFindsUptoCard : Claim7 := { stood := { row := searchFindsUptoRow, standIns := [], harness := (true, "a8c48acd4f00d7bcdc363b3342984c5bd075dd0d53b21e694921dc113564a9b8"), looks := true }, kinds := [], alts := [], laidByText := true, laidKinds := [.data, .pinned], laidTests := true, laidLooks := .later }
def SearchFindsUptoCardSaid : Prop := Claim7.holds Tryd.pinned (.plain (OpenSpec.upto searchFindsSpec)) searchFindsUptoCard
end Rows
end Go.Proofs.YtlhdeplkmghniaaDoor
