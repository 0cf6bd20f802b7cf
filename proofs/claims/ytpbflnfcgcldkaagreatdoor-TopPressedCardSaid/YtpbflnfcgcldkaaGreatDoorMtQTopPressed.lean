/- If stampers are mounted in turn, as Mounts tells, and each disc is pressed on the fastest way, all discs are good, each stamper presses as many as it was told to, and in the end it is used up just if it was told to press Life of them, for every machine and all numbers of stampers and discs that the statement names (P8.3, P8.4, P8.6, P8.9, P8.11, P8.13). -/
import Derived.Test.YtpbflnfcgcldkaaGreatDoorMtQbTopPressed
import Derived.Test.YtpbflnfcgcldkaaGreatDoorMtQdTopPressed
namespace Go.Proofs.YtpbflnfcgcldkaaGreatDoor.pressed
open Go.Sx Go.RowKit Go.ChangeShapes Go.WideShapes Go.ChangeAt
theorem proved : Rows.TopPressedCardSaid :=
  Claim7.holds_tied_plain_at .later [] [.data, .pinned] true (true, "3b1a922c049b75882d13fe0b193323918ad6656cb9ea33217684ce575d37df0a") true said (fun _ h => by cases h) (by kernel_rfl) (fun _ h => by cases h) topPressed_row_tie rfl ⟨rfl, rfl⟩ (by kernel_rfl) rfl
    (fun f fn hf hfn => by
      obtain rfl : f = 4 := Option.some.inj ((show Tryz.prog.funcNamed "deadwax/deadwaxtop.TopPressed" = some 4 by kernel_rfl).symm.trans hf) |>.symm
      obtain rfl : fn = Tryz.f4 := (Option.some.inj (Tryz.func4.symm.trans hfn)).symm
      exact ⟨by kernel_rfl, fun j t ht => by
        rw [Tryz.params4] at ht
        have hm : t ∈ [58, 5, 5, 5, 5] := by simpa using Array.mem_of_getElem? ht
        have hall : ([58, 5, 5, 5, 5].all fun u => !Tryz.prog.wantsStandIn u) = true := by kernel_rfl
        exact (show Tryz.prog.wantsStandIn t = false by simpa using List.all_eq_true.1 hall t hm)⟩)
    goes
end Go.Proofs.YtpbflnfcgcldkaaGreatDoor.pressed
