/-
  DERIVED. GIVEN WITH THE SEED: THE CARDS: each row of YtncleikbggjmjaaGreatDoorRows.lean that lists a variable, with what it lists TIED to the program's text (the seventh form; the later family's looks); each row that meets fmt, with fmt's text TOLD by the authors' own Lean function (tested against real Go, not proved from fmt's source: count such statements apart). THE CARD IS WHAT COUNTS. Prove the row's statement (the work); the ties are given (YtncleikbggjmjaaGreatDoorTie.lean); close each card by the builder's one call (the guide's Derived/Test/ToyasCard.lean, 'card_holds'). Laid BY PROGRAM, IN A SANDBOX (cutbox-door.mjs). By AI agents, Wed Nov 11 2026. No macro, syntax, notation, axiom, sorry.
-/
import Derived.Test.YtncleikbggjmjaaGreatDoorRows
import GoSem.ClaimSeven
namespace Go.Proofs.YtncleikbggjmjaaGreatDoor
namespace Rows

/-- THE TIED CARD OF 'deadwaxtop.TopTraced'. -/
def topTracedCard : Claim7 := { stood := { row := topTracedRow, standIns := [], harness := (true, "a4262937f554b37203a8837eb3270bce23a558724eed2537241e415289f4adc2"), looks := false }, kinds := [], alts := [], laidByText := true, laidKinds := [.data, .pinned], laidTests := true, laidLooks := .later }
def TopTracedCardSaid : Prop := Claim7.holds Tryz.pinned (.plain (OpenSpec.ofChange topTracedSpec)) topTracedCard

/-- THE SECOND FORM's CARD OF 'deadwaxtop.TopTraced'. -/
def topTracedUptoCard : Claim7 := { stood := { row := topTracedUptoRow, standIns := [], harness := (true, "a4262937f554b37203a8837eb3270bce23a558724eed2537241e415289f4adc2"), looks := false }, kinds := [], alts := [], laidByText := true, laidKinds := [.data, .pinned], laidTests := true, laidLooks := .later }
def TopTracedUptoCardSaid : Prop := Claim7.holds Tryz.pinned (.plain (OpenSpec.upto topTracedSpec)) topTracedUptoCard
end Rows
end Go.Proofs.YtncleikbggjmjaaGreatDoor
