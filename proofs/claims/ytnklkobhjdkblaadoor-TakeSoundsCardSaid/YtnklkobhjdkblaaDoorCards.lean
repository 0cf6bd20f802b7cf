/-
  DERIVED. GIVEN WITH THE SEED: THE CARDS: each row of YtnklkobhjdkblaaDoorRows.lean that lists a variable, with what it lists TIED to the program's text (the seventh form; the later family's looks); each row that meets fmt, with fmt's text TOLD by the authors' own Lean function (tested against real Go, not proved from fmt's source: count such statements apart). THE CARD IS WHAT COUNTS. Prove the row's statement (the work); the ties are given (YtnklkobhjdkblaaDoorTie.lean); close each card by the builder's one call (the guide's Derived/Test/ToyasCard.lean, 'card_holds'). Laid BY PROGRAM, IN A SANDBOX (cutbox-door.mjs). By AI agents, Wed Nov 11 2026. No macro, syntax, notation, axiom, sorry.
-/
import Derived.Test.YtnklkobhjdkblaaDoorRows
import GoSem.ClaimSeven
namespace Go.Proofs.YtnklkobhjdkblaaDoor
namespace Rows

/-- THE TIED CARD OF 'deadwaxlaw01.TakeCrossed'. -/
def takeCrossedCard : Claim7 := { stood := { row := takeCrossedRow, standIns := [], harness := (true, "9527b6a7a765a341f84af43da234023bed54ac48aa0d09986c00922af25580a5"), looks := false }, kinds := [], alts := [], laidByText := true, laidKinds := [.data, .pinned], laidTests := true, laidLooks := .later }
def TakeCrossedCardSaid : Prop := Claim7.holds Tryd.pinned (.plain (OpenSpec.ofChange takeCrossedSpec)) takeCrossedCard

/-- THE TIED CARD OF 'deadwaxlaw01.TakeQuiet'. -/
def takeQuietCard : Claim7 := { stood := { row := takeQuietRow, standIns := [], harness := (true, "9527b6a7a765a341f84af43da234023bed54ac48aa0d09986c00922af25580a5"), looks := false }, kinds := [], alts := [], laidByText := true, laidKinds := [.data, .pinned], laidTests := true, laidLooks := .later }
def TakeQuietCardSaid : Prop := Claim7.holds Tryd.pinned (.plain (OpenSpec.ofChange takeQuietSpec)) takeQuietCard

/-- THE TIED CARD OF 'deadwaxlaw01.TakePlain'. -/
def takePlainCard : Claim7 := { stood := { row := takePlainRow, standIns := [], harness := (true, "9527b6a7a765a341f84af43da234023bed54ac48aa0d09986c00922af25580a5"), looks := false }, kinds := [], alts := [], laidByText := true, laidKinds := [.data, .pinned], laidTests := true, laidLooks := .later }
def TakePlainCardSaid : Prop := Claim7.holds Tryd.pinned (.plain (OpenSpec.ofChange takePlainSpec)) takePlainCard

/-- THE TIED CARD OF 'deadwaxlaw01.TakeMeasures'. -/
def takeMeasuresCard : Claim7 := { stood := { row := takeMeasuresRow, standIns := [], harness := (true, "9527b6a7a765a341f84af43da234023bed54ac48aa0d09986c00922af25580a5"), looks := false }, kinds := [], alts := [], laidByText := true, laidKinds := [.data, .pinned], laidTests := true, laidLooks := .later }
def TakeMeasuresCardSaid : Prop := Claim7.holds Tryd.pinned (.plain (OpenSpec.ofChange takeMeasuresSpec)) takeMeasuresCard

/-- THE TIED CARD OF 'deadwaxlaw01.TakeSplits'. -/
def takeSplitsCard : Claim7 := { stood := { row := takeSplitsRow, standIns := [], harness := (true, "9527b6a7a765a341f84af43da234023bed54ac48aa0d09986c00922af25580a5"), looks := false }, kinds := [], alts := [], laidByText := true, laidKinds := [.data, .pinned], laidTests := true, laidLooks := .later }
def TakeSplitsCardSaid : Prop := Claim7.holds Tryd.pinned (.plain (OpenSpec.ofChange takeSplitsSpec)) takeSplitsCard

/-- THE TIED CARD OF 'deadwaxlaw01.TakeParted'. -/
def takePartedCard : Claim7 := { stood := { row := takePartedRow, standIns := [], harness := (true, "9527b6a7a765a341f84af43da234023bed54ac48aa0d09986c00922af25580a5"), looks := false }, kinds := [], alts := [], laidByText := true, laidKinds := [.data, .pinned], laidTests := true, laidLooks := .later }
def TakePartedCardSaid : Prop := Claim7.holds Tryd.pinned (.plain (OpenSpec.ofChange takePartedSpec)) takePartedCard

/-- THE TIED CARD OF 'deadwaxlaw01.TakeHeadroom'. -/
def takeHeadroomCard : Claim7 := { stood := { row := takeHeadroomRow, standIns := [], harness := (true, "9527b6a7a765a341f84af43da234023bed54ac48aa0d09986c00922af25580a5"), looks := false }, kinds := [], alts := [], laidByText := true, laidKinds := [.data, .pinned], laidTests := true, laidLooks := .later }
def TakeHeadroomCardSaid : Prop := Claim7.holds Tryd.pinned (.plain (OpenSpec.ofChange takeHeadroomSpec)) takeHeadroomCard

/-- THE TIED CARD OF 'deadwaxlaw01.TakeMirrored'. -/
def takeMirroredCard : Claim7 := { stood := { row := takeMirroredRow, standIns := [], harness := (true, "9527b6a7a765a341f84af43da234023bed54ac48aa0d09986c00922af25580a5"), looks := false }, kinds := [], alts := [], laidByText := true, laidKinds := [.data, .pinned], laidTests := true, laidLooks := .later }
def TakeMirroredCardSaid : Prop := Claim7.holds Tryd.pinned (.plain (OpenSpec.ofChange takeMirroredSpec)) takeMirroredCard

/-- THE TIED CARD OF 'deadwaxlaw01.TakePlaces'. -/
def takePlacesCard : Claim7 := { stood := { row := takePlacesRow, standIns := [], harness := (true, "9527b6a7a765a341f84af43da234023bed54ac48aa0d09986c00922af25580a5"), looks := false }, kinds := [], alts := [], laidByText := true, laidKinds := [.data, .pinned], laidTests := true, laidLooks := .later }
def TakePlacesCardSaid : Prop := Claim7.holds Tryd.pinned (.plain (OpenSpec.ofChange takePlacesSpec)) takePlacesCard

/-- THE TIED CARD OF 'deadwaxlaw01.TakeJoined'. -/
def takeJoinedCard : Claim7 := { stood := { row := takeJoinedRow, standIns := [], harness := (true, "9527b6a7a765a341f84af43da234023bed54ac48aa0d09986c00922af25580a5"), looks := false }, kinds := [], alts := [], laidByText := true, laidKinds := [.data, .pinned], laidTests := true, laidLooks := .later }
def TakeJoinedCardSaid : Prop := Claim7.holds Tryd.pinned (.plain (OpenSpec.ofChange takeJoinedSpec)) takeJoinedCard

/-- THE TIED CARD OF 'deadwaxlaw01.TakeRenders'. -/
def takeRendersCard : Claim7 := { stood := { row := takeRendersRow, standIns := [], harness := (true, "9527b6a7a765a341f84af43da234023bed54ac48aa0d09986c00922af25580a5"), looks := false }, kinds := [], alts := [], laidByText := true, laidKinds := [.data, .pinned], laidTests := true, laidLooks := .later }
def TakeRendersCardSaid : Prop := Claim7.holds Tryd.pinned (.plain (OpenSpec.ofChange takeRendersSpec)) takeRendersCard

/-- THE TIED CARD OF 'deadwaxlaw01.TakeSounds'. -/
def takeSoundsCard : Claim7 := { stood := { row := takeSoundsRow, standIns := [], harness := (true, "9527b6a7a765a341f84af43da234023bed54ac48aa0d09986c00922af25580a5"), looks := false }, kinds := [], alts := [], laidByText := true, laidKinds := [.data, .pinned], laidTests := true, laidLooks := .later }
def TakeSoundsCardSaid : Prop := Claim7.holds Tryd.pinned (.plain (OpenSpec.ofChange takeSoundsSpec)) takeSoundsCard

/-- THE SECOND FORM's CARD OF 'deadwaxlaw01.TakeCrossed'. -/
def takeCrossedUptoCard : Claim7 := { stood := { row := takeCrossedUptoRow, standIns := [], harness := (true, "9527b6a7a765a341f84af43da234023bed54ac48aa0d09986c00922af25580a5"), looks := false }, kinds := [], alts := [], laidByText := true, laidKinds := [.data, .pinned], laidTests := true, laidLooks := .later }
def TakeCrossedUptoCardSaid : Prop := Claim7.holds Tryd.pinned (.plain (OpenSpec.upto takeCrossedSpec)) takeCrossedUptoCard

/-- THE SECOND FORM's CARD OF 'deadwaxlaw01.TakeQuiet'. -/
def takeQuietUptoCard : Claim7 := { stood := { row := takeQuietUptoRow, standIns := [], harness := (true, "9527b6a7a765a341f84af43da234023bed54ac48aa0d09986c00922af25580a5"), looks := false }, kinds := [], alts := [], laidByText := true, laidKinds := [.data, .pinned], laidTests := true, laidLooks := .later }
def TakeQuietUptoCardSaid : Prop := Claim7.holds Tryd.pinned (.plain (OpenSpec.upto takeQuietSpec)) takeQuietUptoCard

/-- THE SECOND FORM's CARD OF 'deadwaxlaw01.TakePlain'. -/
def takePlainUptoCard : Claim7 := { stood := { row := takePlainUptoRow, standIns := [], harness := (true, "9527b6a7a765a341f84af43da234023bed54ac48aa0d09986c00922af25580a5"), looks := false }, kinds := [], alts := [], laidByText := true, laidKinds := [.data, .pinned], laidTests := true, laidLooks := .later }
def TakePlainUptoCardSaid : Prop := Claim7.holds Tryd.pinned (.plain (OpenSpec.upto takePlainSpec)) takePlainUptoCard

/-- THE SECOND FORM's CARD OF 'deadwaxlaw01.TakeMeasures'. -/
def takeMeasuresUptoCard : Claim7 := { stood := { row := takeMeasuresUptoRow, standIns := [], harness := (true, "9527b6a7a765a341f84af43da234023bed54ac48aa0d09986c00922af25580a5"), looks := false }, kinds := [], alts := [], laidByText := true, laidKinds := [.data, .pinned], laidTests := true, laidLooks := .later }
def TakeMeasuresUptoCardSaid : Prop := Claim7.holds Tryd.pinned (.plain (OpenSpec.upto takeMeasuresSpec)) takeMeasuresUptoCard

/-- THE SECOND FORM's CARD OF 'deadwaxlaw01.TakeSplits'. -/
def takeSplitsUptoCard : Claim7 := { stood := { row := takeSplitsUptoRow, standIns := [], harness := (true, "9527b6a7a765a341f84af43da234023bed54ac48aa0d09986c00922af25580a5"), looks := false }, kinds := [], alts := [], laidByText := true, laidKinds := [.data, .pinned], laidTests := true, laidLooks := .later }
def TakeSplitsUptoCardSaid : Prop := Claim7.holds Tryd.pinned (.plain (OpenSpec.upto takeSplitsSpec)) takeSplitsUptoCard

/-- THE SECOND FORM's CARD OF 'deadwaxlaw01.TakeParted'. -/
def takePartedUptoCard : Claim7 := { stood := { row := takePartedUptoRow, standIns := [], harness := (true, "9527b6a7a765a341f84af43da234023bed54ac48aa0d09986c00922af25580a5"), looks := false }, kinds := [], alts := [], laidByText := true, laidKinds := [.data, .pinned], laidTests := true, laidLooks := .later }
def TakePartedUptoCardSaid : Prop := Claim7.holds Tryd.pinned (.plain (OpenSpec.upto takePartedSpec)) takePartedUptoCard

/-- THE SECOND FORM's CARD OF 'deadwaxlaw01.TakeHeadroom'. -/
def takeHeadroomUptoCard : Claim7 := { stood := { row := takeHeadroomUptoRow, standIns := [], harness := (true, "9527b6a7a765a341f84af43da234023bed54ac48aa0d09986c00922af25580a5"), looks := false }, kinds := [], alts := [], laidByText := true, laidKinds := [.data, .pinned], laidTests := true, laidLooks := .later }
def TakeHeadroomUptoCardSaid : Prop := Claim7.holds Tryd.pinned (.plain (OpenSpec.upto takeHeadroomSpec)) takeHeadroomUptoCard

/-- THE SECOND FORM's CARD OF 'deadwaxlaw01.TakeMirrored'. -/
def takeMirroredUptoCard : Claim7 := { stood := { row := takeMirroredUptoRow, standIns := [], harness := (true, "9527b6a7a765a341f84af43da234023bed54ac48aa0d09986c00922af25580a5"), looks := false }, kinds := [], alts := [], laidByText := true, laidKinds := [.data, .pinned], laidTests := true, laidLooks := .later }
def TakeMirroredUptoCardSaid : Prop := Claim7.holds Tryd.pinned (.plain (OpenSpec.upto takeMirroredSpec)) takeMirroredUptoCard

/-- THE SECOND FORM's CARD OF 'deadwaxlaw01.TakePlaces'. -/
def takePlacesUptoCard : Claim7 := { stood := { row := takePlacesUptoRow, standIns := [], harness := (true, "9527b6a7a765a341f84af43da234023bed54ac48aa0d09986c00922af25580a5"), looks := false }, kinds := [], alts := [], laidByText := true, laidKinds := [.data, .pinned], laidTests := true, laidLooks := .later }
def TakePlacesUptoCardSaid : Prop := Claim7.holds Tryd.pinned (.plain (OpenSpec.upto takePlacesSpec)) takePlacesUptoCard

/-- THE SECOND FORM's CARD OF 'deadwaxlaw01.TakeJoined'. -/
def takeJoinedUptoCard : Claim7 := { stood := { row := takeJoinedUptoRow, standIns := [], harness := (true, "9527b6a7a765a341f84af43da234023bed54ac48aa0d09986c00922af25580a5"), looks := false }, kinds := [], alts := [], laidByText := true, laidKinds := [.data, .pinned], laidTests := true, laidLooks := .later }
def TakeJoinedUptoCardSaid : Prop := Claim7.holds Tryd.pinned (.plain (OpenSpec.upto takeJoinedSpec)) takeJoinedUptoCard

/-- THE SECOND FORM's CARD OF 'deadwaxlaw01.TakeRenders'. -/
def takeRendersUptoCard : Claim7 := { stood := { row := takeRendersUptoRow, standIns := [], harness := (true, "9527b6a7a765a341f84af43da234023bed54ac48aa0d09986c00922af25580a5"), looks := false }, kinds := [], alts := [], laidByText := true, laidKinds := [.data, .pinned], laidTests := true, laidLooks := .later }
def TakeRendersUptoCardSaid : Prop := Claim7.holds Tryd.pinned (.plain (OpenSpec.upto takeRendersSpec)) takeRendersUptoCard

/-- THE SECOND FORM's CARD OF 'deadwaxlaw01.TakeSounds'. -/
def takeSoundsUptoCard : Claim7 := { stood := { row := takeSoundsUptoRow, standIns := [], harness := (true, "9527b6a7a765a341f84af43da234023bed54ac48aa0d09986c00922af25580a5"), looks := false }, kinds := [], alts := [], laidByText := true, laidKinds := [.data, .pinned], laidTests := true, laidLooks := .later }
def TakeSoundsUptoCardSaid : Prop := Claim7.holds Tryd.pinned (.plain (OpenSpec.upto takeSoundsSpec)) takeSoundsUptoCard
end Rows
end Go.Proofs.YtnklkobhjdkblaaDoor
