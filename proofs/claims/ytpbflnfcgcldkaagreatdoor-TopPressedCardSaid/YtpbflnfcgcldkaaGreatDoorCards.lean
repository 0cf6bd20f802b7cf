/-
  DERIVED. GIVEN WITH THE SEED: THE CARDS: each row of YtpbflnfcgcldkaaGreatDoorRows.lean that lists a variable, with what it lists TIED to the program's text (the seventh form; the later family's looks); each row that meets fmt, with fmt's text TOLD by the authors' own Lean function (tested against real Go, not proved from fmt's source: count such statements apart). THE CARD IS WHAT COUNTS. Prove the row's statement (the work); the ties are given (YtpbflnfcgcldkaaGreatDoorTie.lean); close each card by the builder's one call (the guide's Derived/Test/ToyasCard.lean, 'card_holds'). Laid BY PROGRAM, IN A SANDBOX (cutbox-door.mjs). By AI agents, Wed Nov 11 2026. No macro, syntax, notation, axiom, sorry.
-/
import Derived.Test.YtpbflnfcgcldkaaGreatDoorRows
import GoSem.ClaimSeven
namespace Go.Proofs.YtpbflnfcgcldkaaGreatDoor
namespace Rows

/-- THE TIED CARD OF 'deadwaxtop.TopTraced'. -/
def topTracedCard : Claim7 := { stood := { row := topTracedRow, standIns := [], harness := (true, "3b1a922c049b75882d13fe0b193323918ad6656cb9ea33217684ce575d37df0a"), looks := true }, kinds := [], alts := [], laidByText := true, laidKinds := [.data, .pinned], laidTests := true, laidLooks := .later }
def TopTracedCardSaid : Prop := Claim7.holds Tryz.pinned (.plain (OpenSpec.ofChange topTracedSpec)) topTracedCard

/-- THE TIED CARD OF 'deadwaxtop.TopPressed'. -/
def topPressedCard : Claim7 := { stood := { row := topPressedRow, standIns := [], harness := (true, "3b1a922c049b75882d13fe0b193323918ad6656cb9ea33217684ce575d37df0a"), looks := true }, kinds := [], alts := [], laidByText := true, laidKinds := [.data, .pinned], laidTests := true, laidLooks := .later }
def TopPressedCardSaid : Prop := Claim7.holds Tryz.pinned (.plain (OpenSpec.ofChange topPressedSpec)) topPressedCard

/-- THE TIED CARD OF 'deadwaxtop.TopPocketed'. -/
def topPocketedCard : Claim7 := { stood := { row := topPocketedRow, standIns := [], harness := (true, "3b1a922c049b75882d13fe0b193323918ad6656cb9ea33217684ce575d37df0a"), looks := true }, kinds := [], alts := [], laidByText := true, laidKinds := [.data, .data, .pinned], laidTests := true, laidLooks := .later }
def TopPocketedCardSaid : Prop := Claim7.holds Tryz.pinned (.plain (OpenSpec.ofChange topPocketedSpec)) topPocketedCard

/-- THE TIED CARD OF 'deadwaxtop.TopLabels'. -/
def topLabelsCard : Claim7 := { stood := { row := topLabelsRow, standIns := [], harness := (true, "3b1a922c049b75882d13fe0b193323918ad6656cb9ea33217684ce575d37df0a"), looks := true }, kinds := [], alts := [], laidByText := true, laidKinds := [.data, .data, .data, .pinned], laidTests := true, laidLooks := .later }
def TopLabelsCardSaid : Prop := Claim7.holds Tryz.pinned (.plain (OpenSpec.ofChange topLabelsSpec)) topLabelsCard

/-- THE TIED CARD OF 'deadwaxtop.TopInsert'. -/
def topInsertCard : Claim7 := { stood := { row := topInsertRow, standIns := [], harness := (true, "3b1a922c049b75882d13fe0b193323918ad6656cb9ea33217684ce575d37df0a"), looks := true }, kinds := [], alts := [], laidByText := true, laidKinds := [.data, .data, .data, .data, .data, .sentinel, .sentinel, .pinned], laidTests := true, laidLooks := .later }
def TopInsertCardSaid : Prop := Claim7.holds Tryz.pinned (.plain (OpenSpec.ofChange topInsertSpec)) topInsertCard

/-- THE SECOND FORM's CARD OF 'deadwaxtop.TopTraced'. -/
def topTracedUptoCard : Claim7 := { stood := { row := topTracedUptoRow, standIns := [], harness := (true, "3b1a922c049b75882d13fe0b193323918ad6656cb9ea33217684ce575d37df0a"), looks := true }, kinds := [], alts := [], laidByText := true, laidKinds := [.data, .pinned], laidTests := true, laidLooks := .later }
def TopTracedUptoCardSaid : Prop := Claim7.holds Tryz.pinned (.plain (OpenSpec.upto topTracedSpec)) topTracedUptoCard

/-- THE SECOND FORM's CARD OF 'deadwaxtop.TopPressed'. -/
def topPressedUptoCard : Claim7 := { stood := { row := topPressedUptoRow, standIns := [], harness := (true, "3b1a922c049b75882d13fe0b193323918ad6656cb9ea33217684ce575d37df0a"), looks := true }, kinds := [], alts := [], laidByText := true, laidKinds := [.data, .pinned], laidTests := true, laidLooks := .later }
def TopPressedUptoCardSaid : Prop := Claim7.holds Tryz.pinned (.plain (OpenSpec.upto topPressedSpec)) topPressedUptoCard

/-- THE SECOND FORM's CARD OF 'deadwaxtop.TopPocketed'. -/
def topPocketedUptoCard : Claim7 := { stood := { row := topPocketedUptoRow, standIns := [], harness := (true, "3b1a922c049b75882d13fe0b193323918ad6656cb9ea33217684ce575d37df0a"), looks := true }, kinds := [], alts := [], laidByText := true, laidKinds := [.data, .data, .pinned], laidTests := true, laidLooks := .later }
def TopPocketedUptoCardSaid : Prop := Claim7.holds Tryz.pinned (.plain (OpenSpec.upto topPocketedSpec)) topPocketedUptoCard

/-- THE SECOND FORM's CARD OF 'deadwaxtop.TopLabels'. -/
def topLabelsUptoCard : Claim7 := { stood := { row := topLabelsUptoRow, standIns := [], harness := (true, "3b1a922c049b75882d13fe0b193323918ad6656cb9ea33217684ce575d37df0a"), looks := true }, kinds := [], alts := [], laidByText := true, laidKinds := [.data, .data, .data, .pinned], laidTests := true, laidLooks := .later }
def TopLabelsUptoCardSaid : Prop := Claim7.holds Tryz.pinned (.plain (OpenSpec.upto topLabelsSpec)) topLabelsUptoCard

/-- THE SECOND FORM's CARD OF 'deadwaxtop.TopInsert'. -/
def topInsertUptoCard : Claim7 := { stood := { row := topInsertUptoRow, standIns := [], harness := (true, "3b1a922c049b75882d13fe0b193323918ad6656cb9ea33217684ce575d37df0a"), looks := true }, kinds := [], alts := [], laidByText := true, laidKinds := [.data, .data, .data, .data, .data, .sentinel, .sentinel, .pinned], laidTests := true, laidLooks := .later }
def TopInsertUptoCardSaid : Prop := Claim7.holds Tryz.pinned (.plain (OpenSpec.upto topInsertSpec)) topInsertUptoCard
end Rows
end Go.Proofs.YtpbflnfcgcldkaaGreatDoor
