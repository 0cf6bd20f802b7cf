/- The lines of the text of a programme are printed on the pages of an insert; whoever looks up cell by cell what is printed where, and then reads the folded insert from its first page on, reads the text of the programme again, and nothing else, for all takes, parts and folds (P1.11, P1.19, P10.1, P10.6); the listed tables read as laid. -/
import Derived.Test.YtpbflnfcgcldkaaGreatDoorMtQbTopInsert
import Derived.Test.YtpbflnfcgcldkaaGreatDoorMtQdTopInsert
namespace Go.Proofs.YtpbflnfcgcldkaaGreatDoor.insert
open Go.Sx Go.RowKit Go.ChangeShapes Go.WideShapes Go.ChangeAt
theorem proved : Rows.TopInsertCardSaid :=
  Claim7.holds_tied_plain_at .later [] [.data, .data, .data, .data, .data, .sentinel, .sentinel, .pinned] true (true, "3b1a922c049b75882d13fe0b193323918ad6656cb9ea33217684ce575d37df0a") true said (fun _ h => by cases h) (by kernel_rfl) (fun _ h => by cases h) topInsert_row_tie rfl ⟨rfl, rfl⟩ (by kernel_rfl) rfl
    (fun f fn hf hfn => by
      obtain rfl : f = 7 := Option.some.inj ((show Tryz.prog.funcNamed "deadwax/deadwaxtop.TopInsert" = some 7 by kernel_rfl).symm.trans hf) |>.symm
      obtain rfl : fn = Tryz.f7 := (Option.some.inj (Tryz.func7.symm.trans hfn)).symm
      exact ⟨by kernel_rfl, fun j t ht => by
        rw [Tryz.params7] at ht
        have hm : t ∈ [107, 108, 38] := by simpa using Array.mem_of_getElem? ht
        have hall : ([107, 108, 38].all fun u => !Tryz.prog.wantsStandIn u) = true := by kernel_rfl
        exact (show Tryz.prog.wantsStandIn t = false by simpa using List.all_eq_true.1 hall t hm)⟩)
    goes
end Go.Proofs.YtpbflnfcgcldkaaGreatDoor.insert
