/-
  DERIVED. GIVEN WITH THE SEED: THE CARDS: each row of YtdcjgjopmicidaaGreatDoorRows.lean that lists a variable, with what it lists TIED to the program's text (the seventh form; the later family's looks); each row that meets fmt, with fmt's text TOLD by the authors' own Lean function (tested against real Go, not proved from fmt's source: count such statements apart). THE CARD IS WHAT COUNTS. Prove the row's statement (the work); the ties are given (YtdcjgjopmicidaaGreatDoorTie.lean); close each card by the builder's one call (the guide's Derived/Test/ToyasCard.lean, 'card_holds'). Laid BY PROGRAM, IN A SANDBOX (cutbox-door.mjs). By AI agents, Wed Nov 11 2026. No macro, syntax, notation, axiom, sorry.
-/
import Derived.Test.YtdcjgjopmicidaaGreatDoorRows
import GoSem.ClaimSeven
namespace Go.Proofs.YtdcjgjopmicidaaGreatDoor
namespace Rows

/-- THE TIED CARD OF 'deadwaxlaw01.TakeTexts'. -/
def takeTextsCard : Claim7 := { stood := { row := takeTextsRow, standIns := [], harness := (true, "973cc256a72b308e39d01844d1d83363631e87fd6db1dd72d3de81427e25399a"), looks := true }, kinds := [], alts := [], laidByText := true, laidKinds := [.data, .data, .data, .data, .sentinel, .sentinel, .pinned], laidTests := true, laidLooks := .later }
def TakeTextsCardSaid : Prop := Claim7.holds Tryz.pinned (.plain (OpenSpec.ofChange takeTextsSpec)) takeTextsCard

/-- THE TIED CARD OF 'deadwaxlaw01.TakeKept'. -/
def takeKeptCard : Claim7 := { stood := { row := takeKeptRow, standIns := [], harness := (true, "973cc256a72b308e39d01844d1d83363631e87fd6db1dd72d3de81427e25399a"), looks := true }, kinds := [], alts := [], laidByText := true, laidKinds := [.data, .data, .data, .data, .sentinel, .sentinel, .pinned], laidTests := true, laidLooks := .later }
def TakeKeptCardSaid : Prop := Claim7.holds Tryz.pinned (.plain (OpenSpec.ofChange takeKeptSpec)) takeKeptCard

/-- THE SECOND FORM's CARD OF 'deadwaxlaw01.TakeTexts'. -/
def takeTextsUptoCard : Claim7 := { stood := { row := takeTextsUptoRow, standIns := [], harness := (true, "973cc256a72b308e39d01844d1d83363631e87fd6db1dd72d3de81427e25399a"), looks := true }, kinds := [], alts := [], laidByText := true, laidKinds := [.data, .data, .data, .data, .sentinel, .sentinel, .pinned], laidTests := true, laidLooks := .later }
def TakeTextsUptoCardSaid : Prop := Claim7.holds Tryz.pinned (.plain (OpenSpec.upto takeTextsSpec)) takeTextsUptoCard

/-- THE SECOND FORM's CARD OF 'deadwaxlaw01.TakeKept'. -/
def takeKeptUptoCard : Claim7 := { stood := { row := takeKeptUptoRow, standIns := [], harness := (true, "973cc256a72b308e39d01844d1d83363631e87fd6db1dd72d3de81427e25399a"), looks := true }, kinds := [], alts := [], laidByText := true, laidKinds := [.data, .data, .data, .data, .sentinel, .sentinel, .pinned], laidTests := true, laidLooks := .later }
def TakeKeptUptoCardSaid : Prop := Claim7.holds Tryz.pinned (.plain (OpenSpec.upto takeKeptSpec)) takeKeptUptoCard
end Rows
end Go.Proofs.YtdcjgjopmicidaaGreatDoor
