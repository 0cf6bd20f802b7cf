/- Texts of this proof, one behind the other: ThO. -/
import Derived.Test.YtogljfjbilndnaaGreatDoorMt5
import Derived.Test.YtogljfjbilndnaaGreatDoorRows
import Derived.Test.YtogljfjbilndnaaGreatDoorMt14
/- What comes in to TopLaid. -/
namespace Go.Proofs.YtogljfjbilndnaaGreatDoor
open Go.Sx Go.RowKit

theorem own : ownKnob Tryz.prog.godebug = none := by kernel_rfl
theorem laidOut : laidOutB Tryz.prog = true := by kernel_rfl
theorem u8_of {x : Int} (h : (Lit.int .u8 x).wf = true) : 0 ≤ x ∧ x ≤ 255 := Take.u8_of h
theorem u16_of {x : Int} (h : (Lit.int .u16 x).wf = true) : 0 ≤ x ∧ x ≤ 65535 := Take.u16_of h
theorem L_TopLaid {w : World} {x0 x1 x2 x3 x4 x5 x6 : Int} (h0 : 0 ≤ x0 ∧ x0 ≤ 65535) (h1 : 0 ≤ x1 ∧ x1 ≤ 65535) (h2 : 0 ≤ x2 ∧ x2 ≤ 65535) (h3 : 0 ≤ x3 ∧ x3 ≤ 65535) (h4 : 0 ≤ x4 ∧ x4 ≤ 65535) (h5 : 0 ≤ x5 ∧ x5 ≤ 255) (h6 : 0 ≤ x6 ∧ x6 ≤ 255) : Con0 Tryz.prog 3 [.int .u16 x0, .int .u16 x1, .int .u16 x2, .int .u16 x3, .int .u16 x4, .int .u8 x5, .int .u8 x6] w (.bool true) := Side.L_TopLaid h0 h1 h2 h3 h4 h5 h6
end Go.Proofs.YtogljfjbilndnaaGreatDoor
