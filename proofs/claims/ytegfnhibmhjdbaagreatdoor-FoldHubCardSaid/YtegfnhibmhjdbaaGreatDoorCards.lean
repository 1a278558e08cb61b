/-
  DERIVED. GIVEN WITH THE SEED: THE CARDS: each row of YtegfnhibmhjdbaaGreatDoorRows.lean that lists a variable, with what it lists TIED to the program's text (the seventh form; the later family's looks); each row that meets fmt, with fmt's text TOLD by the authors' own Lean function (tested against real Go, not proved from fmt's source: count such statements apart). THE CARD IS WHAT COUNTS. Prove the row's statement (the work); the ties are given (YtegfnhibmhjdbaaGreatDoorTie.lean); close each card by the builder's one call (the guide's Derived/Test/ToyasCard.lean, 'card_holds'). Laid BY PROGRAM, IN A SANDBOX (cutbox-door.mjs). By AI agents, Wed Nov 11 2026. No macro, syntax, notation, axiom, sorry.
-/
import Derived.Test.YtegfnhibmhjdbaaGreatDoorRows
import GoSem.ClaimSeven
namespace Go.Proofs.YtegfnhibmhjdbaaGreatDoor
namespace Rows

/-- THE TIED CARD OF 'palaverlaw17.AuthTells'. -/
def authTellsCard : Claim7 := { stood := { row := authTellsRow, standIns := [], harness := (true, "1e6fad41e85414264b24c160c67fecd71efc9642df507bd21b003ff7a6b203cb"), looks := true }, kinds := [], alts := [], laidByText := true, laidKinds := [.data, .data, .data, .data, .sentinel, .sentinel, .data, .pinned], laidTests := true, laidLooks := .later }
def AuthTellsCardSaid : Prop := Claim7.holds Tryz.pinned (.plain (OpenSpec.ofChange authTellsSpec)) authTellsCard

/-- THE TIED CARD OF 'palaverlaw17.AuthJoined'. -/
def authJoinedCard : Claim7 := { stood := { row := authJoinedRow, standIns := [], harness := (true, "1e6fad41e85414264b24c160c67fecd71efc9642df507bd21b003ff7a6b203cb"), looks := true }, kinds := [], alts := [], laidByText := true, laidKinds := [.data, .data, .data, .data, .sentinel, .sentinel, .data, .pinned], laidTests := true, laidLooks := .later }
def AuthJoinedCardSaid : Prop := Claim7.holds Tryz.pinned (.plain (OpenSpec.ofChange authJoinedSpec)) authJoinedCard

/-- THE TIED CARD OF 'palaverlaw17.AuthBanned'. -/
def authBannedCard : Claim7 := { stood := { row := authBannedRow, standIns := [], harness := (true, "1e6fad41e85414264b24c160c67fecd71efc9642df507bd21b003ff7a6b203cb"), looks := true }, kinds := [], alts := [], laidByText := true, laidKinds := [.data, .data, .data, .data, .sentinel, .sentinel, .data, .pinned], laidTests := true, laidLooks := .later }
def AuthBannedCardSaid : Prop := Claim7.holds Tryz.pinned (.plain (OpenSpec.ofChange authBannedSpec)) authBannedCard

/-- THE TIED CARD OF 'palaverlaw18.FoldNext'. -/
def foldNextCard : Claim7 := { stood := { row := foldNextRow, standIns := [], harness := (true, "1e6fad41e85414264b24c160c67fecd71efc9642df507bd21b003ff7a6b203cb"), looks := true }, kinds := [], alts := [], laidByText := true, laidKinds := [.data, .data, .data, .data, .sentinel, .sentinel, .data, .pinned], laidTests := true, laidLooks := .later }
def FoldNextCardSaid : Prop := Claim7.holds Tryz.pinned (.plain (OpenSpec.ofChange foldNextSpec)) foldNextCard

/-- THE TIED CARD OF 'palaverlaw18.FoldRuns'. -/
def foldRunsCard : Claim7 := { stood := { row := foldRunsRow, standIns := [], harness := (true, "1e6fad41e85414264b24c160c67fecd71efc9642df507bd21b003ff7a6b203cb"), looks := true }, kinds := [], alts := [], laidByText := true, laidKinds := [.data, .data, .data, .data, .sentinel, .sentinel, .data, .pinned], laidTests := true, laidLooks := .later }
def FoldRunsCardSaid : Prop := Claim7.holds Tryz.pinned (.plain (OpenSpec.ofChange foldRunsSpec)) foldRunsCard

/-- THE TIED CARD OF 'palaverlaw18.FoldBegins'. -/
def foldBeginsCard : Claim7 := { stood := { row := foldBeginsRow, standIns := [], harness := (true, "1e6fad41e85414264b24c160c67fecd71efc9642df507bd21b003ff7a6b203cb"), looks := true }, kinds := [], alts := [], laidByText := true, laidKinds := [.data, .data, .data, .data, .sentinel, .sentinel, .data, .pinned], laidTests := true, laidLooks := .later }
def FoldBeginsCardSaid : Prop := Claim7.holds Tryz.pinned (.plain (OpenSpec.ofChange foldBeginsSpec)) foldBeginsCard

/-- THE TIED CARD OF 'palaverlaw18.FoldHub'. -/
def foldHubCard : Claim7 := { stood := { row := foldHubRow, standIns := [], harness := (true, "1e6fad41e85414264b24c160c67fecd71efc9642df507bd21b003ff7a6b203cb"), looks := true }, kinds := [], alts := [], laidByText := true, laidKinds := [.data, .data, .data, .data, .sentinel, .sentinel, .data, .pinned], laidTests := true, laidLooks := .later }
def FoldHubCardSaid : Prop := Claim7.holds Tryz.pinned (.plain (OpenSpec.ofChange foldHubSpec)) foldHubCard

/-- THE TIED CARD OF 'palavertop.TopRoom'. -/
def topRoomCard : Claim7 := { stood := { row := topRoomRow, standIns := [], harness := (true, "1e6fad41e85414264b24c160c67fecd71efc9642df507bd21b003ff7a6b203cb"), looks := true }, kinds := [], alts := [], laidByText := true, laidKinds := [.data, .data, .data, .data, .sentinel, .sentinel, .data, .pinned], laidTests := true, laidLooks := .later }
def TopRoomCardSaid : Prop := Claim7.holds Tryz.pinned (.plain (OpenSpec.ofChange topRoomSpec)) topRoomCard

/-- THE SECOND FORM's CARD OF 'palaverlaw17.AuthTells'. -/
def authTellsUptoCard : Claim7 := { stood := { row := authTellsUptoRow, standIns := [], harness := (true, "1e6fad41e85414264b24c160c67fecd71efc9642df507bd21b003ff7a6b203cb"), looks := true }, kinds := [], alts := [], laidByText := true, laidKinds := [.data, .data, .data, .data, .sentinel, .sentinel, .data, .pinned], laidTests := true, laidLooks := .later }
def AuthTellsUptoCardSaid : Prop := Claim7.holds Tryz.pinned (.plain (OpenSpec.upto authTellsSpec)) authTellsUptoCard

/-- THE SECOND FORM's CARD OF 'palaverlaw17.AuthJoined'. -/
def authJoinedUptoCard : Claim7 := { stood := { row := authJoinedUptoRow, standIns := [], harness := (true, "1e6fad41e85414264b24c160c67fecd71efc9642df507bd21b003ff7a6b203cb"), looks := true }, kinds := [], alts := [], laidByText := true, laidKinds := [.data, .data, .data, .data, .sentinel, .sentinel, .data, .pinned], laidTests := true, laidLooks := .later }
def AuthJoinedUptoCardSaid : Prop := Claim7.holds Tryz.pinned (.plain (OpenSpec.upto authJoinedSpec)) authJoinedUptoCard

/-- THE SECOND FORM's CARD OF 'palaverlaw17.AuthBanned'. -/
def authBannedUptoCard : Claim7 := { stood := { row := authBannedUptoRow, standIns := [], harness := (true, "1e6fad41e85414264b24c160c67fecd71efc9642df507bd21b003ff7a6b203cb"), looks := true }, kinds := [], alts := [], laidByText := true, laidKinds := [.data, .data, .data, .data, .sentinel, .sentinel, .data, .pinned], laidTests := true, laidLooks := .later }
def AuthBannedUptoCardSaid : Prop := Claim7.holds Tryz.pinned (.plain (OpenSpec.upto authBannedSpec)) authBannedUptoCard

/-- THE SECOND FORM's CARD OF 'palaverlaw18.FoldNext'. -/
def foldNextUptoCard : Claim7 := { stood := { row := foldNextUptoRow, standIns := [], harness := (true, "1e6fad41e85414264b24c160c67fecd71efc9642df507bd21b003ff7a6b203cb"), looks := true }, kinds := [], alts := [], laidByText := true, laidKinds := [.data, .data, .data, .data, .sentinel, .sentinel, .data, .pinned], laidTests := true, laidLooks := .later }
def FoldNextUptoCardSaid : Prop := Claim7.holds Tryz.pinned (.plain (OpenSpec.upto foldNextSpec)) foldNextUptoCard

/-- THE SECOND FORM's CARD OF 'palaverlaw18.FoldRuns'. -/
def foldRunsUptoCard : Claim7 := { stood := { row := foldRunsUptoRow, standIns := [], harness := (true, "1e6fad41e85414264b24c160c67fecd71efc9642df507bd21b003ff7a6b203cb"), looks := true }, kinds := [], alts := [], laidByText := true, laidKinds := [.data, .data, .data, .data, .sentinel, .sentinel, .data, .pinned], laidTests := true, laidLooks := .later }
def FoldRunsUptoCardSaid : Prop := Claim7.holds Tryz.pinned (.plain (OpenSpec.upto foldRunsSpec)) foldRunsUptoCard

/-- THE SECOND FORM's CARD OF 'palaverlaw18.FoldBegins'. -/
def foldBeginsUptoCard : Claim7 := { stood := { row := foldBeginsUptoRow, standIns := [], harness := (true, "1e6fad41e85414264b24c160c67fecd71efc9642df507bd21b003ff7a6b203cb"), looks := true }, kinds := [], alts := [], laidByText := true, laidKinds := [.data, .data, .data, .data, .sentinel, .sentinel, .data, .pinned], laidTests := true, laidLooks := .later }
def FoldBeginsUptoCardSaid : Prop := Claim7.holds Tryz.pinned (.plain (OpenSpec.upto foldBeginsSpec)) foldBeginsUptoCard

/-- THE SECOND FORM's CARD OF 'palaverlaw18.FoldHub'. -/
def foldHubUptoCard : Claim7 := { stood := { row := foldHubUptoRow, standIns := [], harness := (true, "1e6fad41e85414264b24c160c67fecd71efc9642df507bd21b003ff7a6b203cb"), looks := true }, kinds := [], alts := [], laidByText := true, laidKinds := [.data, .data, .data, .data, .sentinel, .sentinel, .data, .pinned], laidTests := true, laidLooks := .later }
def FoldHubUptoCardSaid : Prop := Claim7.holds Tryz.pinned (.plain (OpenSpec.upto foldHubSpec)) foldHubUptoCard

/-- THE SECOND FORM's CARD OF 'palavertop.TopRoom'. -/
def topRoomUptoCard : Claim7 := { stood := { row := topRoomUptoRow, standIns := [], harness := (true, "1e6fad41e85414264b24c160c67fecd71efc9642df507bd21b003ff7a6b203cb"), looks := true }, kinds := [], alts := [], laidByText := true, laidKinds := [.data, .data, .data, .data, .sentinel, .sentinel, .data, .pinned], laidTests := true, laidLooks := .later }
def TopRoomUptoCardSaid : Prop := Claim7.holds Tryz.pinned (.plain (OpenSpec.upto topRoomSpec)) topRoomUptoCard
end Rows
end Go.Proofs.YtegfnhibmhjdbaaGreatDoor
