/-
  DERIVED. GIVEN WITH THE SEED: THE CARDS: each row of YtdcjgjopmicidaaDoorRows.lean that lists a variable, with what it lists TIED to the program's text (the seventh form; the later family's looks); each row that meets fmt, with fmt's text TOLD by the authors' own Lean function (tested against real Go, not proved from fmt's source: count such statements apart). THE CARD IS WHAT COUNTS. Prove the row's statement (the work); the ties are given (YtdcjgjopmicidaaDoorTie.lean); close each card by the builder's one call (the guide's Derived/Test/ToyasCard.lean, 'card_holds'). Laid BY PROGRAM, IN A SANDBOX (cutbox-door.mjs). By AI agents, Wed Nov 11 2026. No macro, syntax, notation, axiom, sorry.
-/
import Derived.Test.YtdcjgjopmicidaaDoorRows
import GoSem.ClaimSeven
namespace Go.Proofs.YtdcjgjopmicidaaDoor
namespace Rows

/-- THE TIED CARD OF 'deadwaxlaw01.TakeFiles'. -/
def takeFilesCard : Claim7 := { stood := { row := takeFilesRow, standIns := [], harness := (true, "48db9a1463dadf1d7a6653ae3c65105c31c463d46527a93ba20edc0cbff07432"), looks := false }, kinds := [], alts := [], laidByText := true, laidKinds := [.data, .pinned], laidTests := true, laidLooks := .later }
def TakeFilesCardSaid : Prop := Claim7.holds Tryd.pinned (.plain (OpenSpec.ofChange takeFilesSpec)) takeFilesCard

/-- THE SECOND FORM's CARD OF 'deadwaxlaw01.TakeFiles'. -/
def takeFilesUptoCard : Claim7 := { stood := { row := takeFilesUptoRow, standIns := [], harness := (true, "48db9a1463dadf1d7a6653ae3c65105c31c463d46527a93ba20edc0cbff07432"), looks := false }, kinds := [], alts := [], laidByText := true, laidKinds := [.data, .pinned], laidTests := true, laidLooks := .later }
def TakeFilesUptoCardSaid : Prop := Claim7.holds Tryd.pinned (.plain (OpenSpec.upto takeFilesSpec)) takeFilesUptoCard
end Rows
end Go.Proofs.YtdcjgjopmicidaaDoor
