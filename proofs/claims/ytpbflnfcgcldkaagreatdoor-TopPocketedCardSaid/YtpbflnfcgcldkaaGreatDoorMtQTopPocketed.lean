/- Two square panels that hang on one another, as long as a disc of a format is wide and some more, make a pocket of just this size, and a flap closes it, for every format (P4.1, P10.4, P10.5, P10.10, P10.11); the listed tables read as laid. -/
import Derived.Test.YtpbflnfcgcldkaaGreatDoorMtQbTopPocketed
import Derived.Test.YtpbflnfcgcldkaaGreatDoorMtQdTopPocketed
namespace Go.Proofs.YtpbflnfcgcldkaaGreatDoor.pocketed
open Go.Sx Go.RowKit Go.ChangeShapes Go.WideShapes Go.ChangeAt
theorem proved : Rows.TopPocketedCardSaid :=
  Claim7.holds_tied_plain_at .later [] [.data, .data, .pinned] true (true, "3b1a922c049b75882d13fe0b193323918ad6656cb9ea33217684ce575d37df0a") true said (fun _ h => by cases h) (by kernel_rfl) (fun _ h => by cases h) topPocketed_row_tie rfl ⟨rfl, rfl⟩ (by kernel_rfl) rfl
    (fun f fn hf hfn => by
      obtain rfl : f = 5 := Option.some.inj ((show Tryz.prog.funcNamed "deadwax/deadwaxtop.TopPocketed" = some 5 by kernel_rfl).symm.trans hf) |>.symm
      obtain rfl : fn = Tryz.f5 := (Option.some.inj (Tryz.func5.symm.trans hfn)).symm
      exact ⟨by kernel_rfl, fun j t ht => by
        rw [Tryz.params5] at ht
        have hm : t ∈ [77, 5, 5, 5, 78, 79] := by simpa using Array.mem_of_getElem? ht
        have hall : ([77, 5, 5, 5, 78, 79].all fun u => !Tryz.prog.wantsStandIn u) = true := by kernel_rfl
        exact (show Tryz.prog.wantsStandIn t = false by simpa using List.all_eq_true.1 hall t hm)⟩)
    goes
end Go.Proofs.YtpbflnfcgcldkaaGreatDoor.pocketed
