/-
  DERIVED. GIVEN WITH THE SEED: THE CARDS: each row of YtpibemolnjmgoaaDoorRows.lean that lists a variable, with what it lists TIED to the program's text (the seventh form; the later family's looks); each row that meets fmt, with fmt's text TOLD by the authors' own Lean function (tested against real Go, not proved from fmt's source: count such statements apart). THE CARD IS WHAT COUNTS. Prove the row's statement (the work); the ties are given (YtpibemolnjmgoaaDoorTie.lean); close each card by the builder's one call (the guide's Derived/Test/ToyasCard.lean, 'card_holds'). Laid BY PROGRAM, IN A SANDBOX (cutbox-door.mjs). By AI agents, Wed Nov 11 2026. No macro, syntax, notation, axiom, sorry.
-/
import Derived.Test.YtpibemolnjmgoaaDoorRows
import GoSem.ClaimSeven
namespace Go.Proofs.YtpibemolnjmgoaaDoor
namespace Rows

/-- THE TIED CARD OF 'palaverlaw02.ShaSums'. -/
def shaSumsCard : Claim7 := { stood := { row := shaSumsRow, standIns := [], harness := (true, "b8fe2ac0f02a9b7d4657803f95711e104dc3d867bfe76aa64db7ddc8a77408dd"), looks := false }, kinds := [], alts := [], laidByText := true, laidKinds := [.data, .data], laidTests := true, laidLooks := .later }
def ShaSumsCardSaid : Prop := Claim7.holds Tryd.pinned (.plain (OpenSpec.ofChange shaSumsSpec)) shaSumsCard

/-- THE TIED CARD OF 'palaverlaw02.ShaTurns'. -/
def shaTurnsCard : Claim7 := { stood := { row := shaTurnsRow, standIns := [], harness := (true, "b8fe2ac0f02a9b7d4657803f95711e104dc3d867bfe76aa64db7ddc8a77408dd"), looks := false }, kinds := [], alts := [], laidByText := true, laidKinds := [.data, .data], laidTests := true, laidLooks := .later }
def ShaTurnsCardSaid : Prop := Claim7.holds Tryd.pinned (.plain (OpenSpec.ofChange shaTurnsSpec)) shaTurnsCard

/-- THE TIED CARD OF 'palaverlaw02.ShaBack'. -/
def shaBackCard : Claim7 := { stood := { row := shaBackRow, standIns := [], harness := (true, "b8fe2ac0f02a9b7d4657803f95711e104dc3d867bfe76aa64db7ddc8a77408dd"), looks := false }, kinds := [], alts := [], laidByText := true, laidKinds := [.data, .data], laidTests := true, laidLooks := .later }
def ShaBackCardSaid : Prop := Claim7.holds Tryd.pinned (.plain (OpenSpec.ofChange shaBackSpec)) shaBackCard

/-- THE TIED CARD OF 'palaverlaw04.OnetimeDigits'. -/
def onetimeDigitsCard : Claim7 := { stood := { row := onetimeDigitsRow, standIns := [], harness := (true, "b8fe2ac0f02a9b7d4657803f95711e104dc3d867bfe76aa64db7ddc8a77408dd"), looks := false }, kinds := [], alts := [], laidByText := true, laidKinds := [.data, .data], laidTests := true, laidLooks := .later }
def OnetimeDigitsCardSaid : Prop := Claim7.holds Tryd.pinned (.plain (OpenSpec.ofChange onetimeDigitsSpec)) onetimeDigitsCard

/-- THE TIED CARD OF 'palaverlaw04.OnetimeSigns'. -/
def onetimeSignsCard : Claim7 := { stood := { row := onetimeSignsRow, standIns := [], harness := (true, "b8fe2ac0f02a9b7d4657803f95711e104dc3d867bfe76aa64db7ddc8a77408dd"), looks := false }, kinds := [], alts := [], laidByText := true, laidKinds := [.data, .data], laidTests := true, laidLooks := .later }
def OnetimeSignsCardSaid : Prop := Claim7.holds Tryd.pinned (.plain (OpenSpec.ofChange onetimeSignsSpec)) onetimeSignsCard

/-- THE TIED CARD OF 'palaverlaw04.OnetimeRecovers'. -/
def onetimeRecoversCard : Claim7 := { stood := { row := onetimeRecoversRow, standIns := [], harness := (true, "b8fe2ac0f02a9b7d4657803f95711e104dc3d867bfe76aa64db7ddc8a77408dd"), looks := false }, kinds := [], alts := [], laidByText := true, laidKinds := [.data, .data], laidTests := true, laidLooks := .later }
def OnetimeRecoversCardSaid : Prop := Claim7.holds Tryd.pinned (.plain (OpenSpec.ofChange onetimeRecoversSpec)) onetimeRecoversCard

/-- THE TIED CARD OF 'palaverlaw04.OnetimeBack'. -/
def onetimeBackCard : Claim7 := { stood := { row := onetimeBackRow, standIns := [], harness := (true, "b8fe2ac0f02a9b7d4657803f95711e104dc3d867bfe76aa64db7ddc8a77408dd"), looks := false }, kinds := [], alts := [], laidByText := true, laidKinds := [.data, .data], laidTests := true, laidLooks := .later }
def OnetimeBackCardSaid : Prop := Claim7.holds Tryd.pinned (.plain (OpenSpec.ofChange onetimeBackSpec)) onetimeBackCard

/-- THE TIED CARD OF 'palaverlaw04.OnetimeAbove'. -/
def onetimeAboveCard : Claim7 := { stood := { row := onetimeAboveRow, standIns := [], harness := (true, "b8fe2ac0f02a9b7d4657803f95711e104dc3d867bfe76aa64db7ddc8a77408dd"), looks := false }, kinds := [], alts := [], laidByText := true, laidKinds := [.data, .data], laidTests := true, laidLooks := .later }
def OnetimeAboveCardSaid : Prop := Claim7.holds Tryd.pinned (.plain (OpenSpec.ofChange onetimeAboveSpec)) onetimeAboveCard

/-- THE SECOND FORM's CARD OF 'palaverlaw02.ShaSums'. -/
def shaSumsUptoCard : Claim7 := { stood := { row := shaSumsUptoRow, standIns := [], harness := (true, "b8fe2ac0f02a9b7d4657803f95711e104dc3d867bfe76aa64db7ddc8a77408dd"), looks := false }, kinds := [], alts := [], laidByText := true, laidKinds := [.data, .data], laidTests := true, laidLooks := .later }
def ShaSumsUptoCardSaid : Prop := Claim7.holds Tryd.pinned (.plain (OpenSpec.upto shaSumsSpec)) shaSumsUptoCard

/-- THE SECOND FORM's CARD OF 'palaverlaw02.ShaTurns'. -/
def shaTurnsUptoCard : Claim7 := { stood := { row := shaTurnsUptoRow, standIns := [], harness := (true, "b8fe2ac0f02a9b7d4657803f95711e104dc3d867bfe76aa64db7ddc8a77408dd"), looks := false }, kinds := [], alts := [], laidByText := true, laidKinds := [.data, .data], laidTests := true, laidLooks := .later }
def ShaTurnsUptoCardSaid : Prop := Claim7.holds Tryd.pinned (.plain (OpenSpec.upto shaTurnsSpec)) shaTurnsUptoCard

/-- THE SECOND FORM's CARD OF 'palaverlaw02.ShaBack'. -/
def shaBackUptoCard : Claim7 := { stood := { row := shaBackUptoRow, standIns := [], harness := (true, "b8fe2ac0f02a9b7d4657803f95711e104dc3d867bfe76aa64db7ddc8a77408dd"), looks := false }, kinds := [], alts := [], laidByText := true, laidKinds := [.data, .data], laidTests := true, laidLooks := .later }
def ShaBackUptoCardSaid : Prop := Claim7.holds Tryd.pinned (.plain (OpenSpec.upto shaBackSpec)) shaBackUptoCard

/-- THE SECOND FORM's CARD OF 'palaverlaw04.OnetimeDigits'. -/
def onetimeDigitsUptoCard : Claim7 := { stood := { row := onetimeDigitsUptoRow, standIns := [], harness := (true, "b8fe2ac0f02a9b7d4657803f95711e104dc3d867bfe76aa64db7ddc8a77408dd"), looks := false }, kinds := [], alts := [], laidByText := true, laidKinds := [.data, .data], laidTests := true, laidLooks := .later }
def OnetimeDigitsUptoCardSaid : Prop := Claim7.holds Tryd.pinned (.plain (OpenSpec.upto onetimeDigitsSpec)) onetimeDigitsUptoCard

/-- THE SECOND FORM's CARD OF 'palaverlaw04.OnetimeSigns'. -/
def onetimeSignsUptoCard : Claim7 := { stood := { row := onetimeSignsUptoRow, standIns := [], harness := (true, "b8fe2ac0f02a9b7d4657803f95711e104dc3d867bfe76aa64db7ddc8a77408dd"), looks := false }, kinds := [], alts := [], laidByText := true, laidKinds := [.data, .data], laidTests := true, laidLooks := .later }
def OnetimeSignsUptoCardSaid : Prop := Claim7.holds Tryd.pinned (.plain (OpenSpec.upto onetimeSignsSpec)) onetimeSignsUptoCard

/-- THE SECOND FORM's CARD OF 'palaverlaw04.OnetimeRecovers'. -/
def onetimeRecoversUptoCard : Claim7 := { stood := { row := onetimeRecoversUptoRow, standIns := [], harness := (true, "b8fe2ac0f02a9b7d4657803f95711e104dc3d867bfe76aa64db7ddc8a77408dd"), looks := false }, kinds := [], alts := [], laidByText := true, laidKinds := [.data, .data], laidTests := true, laidLooks := .later }
def OnetimeRecoversUptoCardSaid : Prop := Claim7.holds Tryd.pinned (.plain (OpenSpec.upto onetimeRecoversSpec)) onetimeRecoversUptoCard

/-- THE SECOND FORM's CARD OF 'palaverlaw04.OnetimeBack'. -/
def onetimeBackUptoCard : Claim7 := { stood := { row := onetimeBackUptoRow, standIns := [], harness := (true, "b8fe2ac0f02a9b7d4657803f95711e104dc3d867bfe76aa64db7ddc8a77408dd"), looks := false }, kinds := [], alts := [], laidByText := true, laidKinds := [.data, .data], laidTests := true, laidLooks := .later }
def OnetimeBackUptoCardSaid : Prop := Claim7.holds Tryd.pinned (.plain (OpenSpec.upto onetimeBackSpec)) onetimeBackUptoCard

/-- THE SECOND FORM's CARD OF 'palaverlaw04.OnetimeAbove'. -/
def onetimeAboveUptoCard : Claim7 := { stood := { row := onetimeAboveUptoRow, standIns := [], harness := (true, "b8fe2ac0f02a9b7d4657803f95711e104dc3d867bfe76aa64db7ddc8a77408dd"), looks := false }, kinds := [], alts := [], laidByText := true, laidKinds := [.data, .data], laidTests := true, laidLooks := .later }
def OnetimeAboveUptoCardSaid : Prop := Claim7.holds Tryd.pinned (.plain (OpenSpec.upto onetimeAboveSpec)) onetimeAboveUptoCard
end Rows
end Go.Proofs.YtpibemolnjmgoaaDoor
