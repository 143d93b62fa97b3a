/-
  DERIVED. GIVEN WITH THE SEED: THE CARDS: each row of YtjbkglcifgcjcaaGreatDoorRows.lean that lists a variable, with what it lists TIED to the program's text (the seventh form; the later family's looks); each row that meets fmt, with fmt's text TOLD by the authors' own Lean function (tested against real Go, not proved from fmt's source: count such statements apart). THE CARD IS WHAT COUNTS. Prove the row's statement (the work); the ties are given (YtjbkglcifgcjcaaGreatDoorTie.lean); close each card by the builder's one call (the guide's Derived/Test/ToyasCard.lean, 'card_holds'). Laid BY PROGRAM, IN A SANDBOX (cutbox-door.mjs). By AI agents, Wed Nov 11 2026. No macro, syntax, notation, axiom, sorry.
-/
import Derived.Test.YtjbkglcifgcjcaaGreatDoorRows
import GoSem.ClaimSeven
namespace Go.Proofs.YtjbkglcifgcjcaaGreatDoor
namespace Rows

/-- THE TIED CARD OF 'clewlaw24.GrowKids'. -/
def growKidsCard : Claim7 := { stood := { row := growKidsRow, standIns := [], harness := (true, "59488ed2b0e2ffc49166e38ab3aa73eed6ccc27a6eb38fd49ec66386ced94ab2"), looks := false }, kinds := [], alts := [], laidByText := true, laidKinds := [.data, .pinned], laidTests := true, laidLooks := .later }
def GrowKidsCardSaid : Prop := Claim7.holds Tryz.pinned (.plain (OpenSpec.ofChange growKidsSpec)) growKidsCard

/-- THE TIED CARD OF 'clewlaw24.GrowPaths'. -/
def growPathsCard : Claim7 := { stood := { row := growPathsRow, standIns := [], harness := (true, "59488ed2b0e2ffc49166e38ab3aa73eed6ccc27a6eb38fd49ec66386ced94ab2"), looks := false }, kinds := [], alts := [], laidByText := true, laidKinds := [.data, .pinned], laidTests := true, laidLooks := .later }
def GrowPathsCardSaid : Prop := Claim7.holds Tryz.pinned (.plain (OpenSpec.ofChange growPathsSpec)) growPathsCard

/-- THE TIED CARD OF 'clewlaw24.GrowWalks'. -/
def growWalksCard : Claim7 := { stood := { row := growWalksRow, standIns := [], harness := (true, "59488ed2b0e2ffc49166e38ab3aa73eed6ccc27a6eb38fd49ec66386ced94ab2"), looks := false }, kinds := [], alts := [], laidByText := true, laidKinds := [.data, .pinned], laidTests := true, laidLooks := .later }
def GrowWalksCardSaid : Prop := Claim7.holds Tryz.pinned (.plain (OpenSpec.ofChange growWalksSpec)) growWalksCard

/-- THE TIED CARD OF 'clewlaw23.SessFull'. -/
def sessFullCard : Claim7 := { stood := { row := sessFullRow, standIns := [], harness := (true, "59488ed2b0e2ffc49166e38ab3aa73eed6ccc27a6eb38fd49ec66386ced94ab2"), looks := false }, kinds := [], alts := [], laidByText := true, laidKinds := [.data, .pinned], laidTests := true, laidLooks := .later }
def SessFullCardSaid : Prop := Claim7.holds Tryz.pinned (.plain (OpenSpec.ofChange sessFullSpec)) sessFullCard

/-- THE TIED CARD OF 'clewlaw25.SayQuotes'. -/
def sayQuotesCard : Claim7 := { stood := { row := sayQuotesRow, standIns := [], harness := (true, "59488ed2b0e2ffc49166e38ab3aa73eed6ccc27a6eb38fd49ec66386ced94ab2"), looks := false }, kinds := [], alts := [], laidByText := true, laidKinds := [.data, .data, .data, .data, .pinned], laidTests := true, laidLooks := .later }
def SayQuotesCardSaid : Prop := Claim7.holds Tryz.pinned (.plain (OpenSpec.ofChange sayQuotesSpec)) sayQuotesCard

/-- THE SECOND FORM's CARD OF 'clewlaw24.GrowKids'. -/
def growKidsUptoCard : Claim7 := { stood := { row := growKidsUptoRow, standIns := [], harness := (true, "59488ed2b0e2ffc49166e38ab3aa73eed6ccc27a6eb38fd49ec66386ced94ab2"), looks := false }, kinds := [], alts := [], laidByText := true, laidKinds := [.data, .pinned], laidTests := true, laidLooks := .later }
def GrowKidsUptoCardSaid : Prop := Claim7.holds Tryz.pinned (.plain (OpenSpec.upto growKidsSpec)) growKidsUptoCard

/-- THE SECOND FORM's CARD OF 'clewlaw24.GrowPaths'. -/
def growPathsUptoCard : Claim7 := { stood := { row := growPathsUptoRow, standIns := [], harness := (true, "59488ed2b0e2ffc49166e38ab3aa73eed6ccc27a6eb38fd49ec66386ced94ab2"), looks := false }, kinds := [], alts := [], laidByText := true, laidKinds := [.data, .pinned], laidTests := true, laidLooks := .later }
def GrowPathsUptoCardSaid : Prop := Claim7.holds Tryz.pinned (.plain (OpenSpec.upto growPathsSpec)) growPathsUptoCard

/-- THE SECOND FORM's CARD OF 'clewlaw24.GrowWalks'. -/
def growWalksUptoCard : Claim7 := { stood := { row := growWalksUptoRow, standIns := [], harness := (true, "59488ed2b0e2ffc49166e38ab3aa73eed6ccc27a6eb38fd49ec66386ced94ab2"), looks := false }, kinds := [], alts := [], laidByText := true, laidKinds := [.data, .pinned], laidTests := true, laidLooks := .later }
def GrowWalksUptoCardSaid : Prop := Claim7.holds Tryz.pinned (.plain (OpenSpec.upto growWalksSpec)) growWalksUptoCard

/-- THE SECOND FORM's CARD OF 'clewlaw23.SessFull'. -/
def sessFullUptoCard : Claim7 := { stood := { row := sessFullUptoRow, standIns := [], harness := (true, "59488ed2b0e2ffc49166e38ab3aa73eed6ccc27a6eb38fd49ec66386ced94ab2"), looks := false }, kinds := [], alts := [], laidByText := true, laidKinds := [.data, .pinned], laidTests := true, laidLooks := .later }
def SessFullUptoCardSaid : Prop := Claim7.holds Tryz.pinned (.plain (OpenSpec.upto sessFullSpec)) sessFullUptoCard

/-- THE SECOND FORM's CARD OF 'clewlaw25.SayQuotes'. -/
def sayQuotesUptoCard : Claim7 := { stood := { row := sayQuotesUptoRow, standIns := [], harness := (true, "59488ed2b0e2ffc49166e38ab3aa73eed6ccc27a6eb38fd49ec66386ced94ab2"), looks := false }, kinds := [], alts := [], laidByText := true, laidKinds := [.data, .data, .data, .data, .pinned], laidTests := true, laidLooks := .later }
def SayQuotesUptoCardSaid : Prop := Claim7.holds Tryz.pinned (.plain (OpenSpec.upto sayQuotesSpec)) sayQuotesUptoCard
end Rows
end Go.Proofs.YtjbkglcifgcjcaaGreatDoor
