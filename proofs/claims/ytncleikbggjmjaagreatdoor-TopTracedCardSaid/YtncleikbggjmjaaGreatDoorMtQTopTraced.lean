/- Whoever listens to all discs for a flaw that was never mended, and is heard on some disc, has the plate on which it was made among the suspects; each suspect plate is in the line of the stamper of each disc on which it was heard; and just these discs are certain (P7.4, P7.5, P7.10, P9.6, P9.7, P9.11, P9.12). -/
import Derived.Test.YtncleikbggjmjaaGreatDoorMtQbTopTraced
import Derived.Test.YtncleikbggjmjaaGreatDoorMtQdTopTraced
namespace Go.Proofs.YtncleikbggjmjaaGreatDoor.traced
open Go.Sx Go.RowKit Go.ChangeShapes Go.WideShapes Go.ChangeAt
theorem proved : Rows.TopTracedCardSaid :=
  Claim7.holds_tied_plain_at .later [] [.data, .pinned] true (true, "a4262937f554b37203a8837eb3270bce23a558724eed2537241e415289f4adc2") false said (fun _ h => by cases h) (by kernel_rfl) (fun _ h => by cases h) topTraced_row_tie rfl ⟨rfl, rfl⟩ (by kernel_rfl) rfl
    (fun f fn hf hfn => by
      obtain rfl : f = 3 := Option.some.inj ((show Tryz.prog.funcNamed "deadwax/deadwaxtop.TopTraced" = some 3 by kernel_rfl).symm.trans hf) |>.symm
      obtain rfl : fn = Tryz.f3 := (Option.some.inj (Tryz.func3.symm.trans hfn)).symm
      exact ⟨by kernel_rfl, fun j t ht => by
        rw [Tryz.params3] at ht
        have hm : t ∈ [24, 25, 26, 4, 5] := by simpa using Array.mem_of_getElem? ht
        have hall : ([24, 25, 26, 4, 5].all fun u => !Tryz.prog.wantsStandIn u) = true := by kernel_rfl
        exact (show Tryz.prog.wantsStandIn t = false by simpa using List.all_eq_true.1 hall t hm)⟩)
    goes
end Go.Proofs.YtncleikbggjmjaaGreatDoor.traced
