/- Texts of this proof, one behind the other: Fp2. -/
import Derived.Test.YtncleikbggjmjaaGreatDoorChecked
import Derived.JoinedOf
import Derived.KernelRfl
/- Closed facts of the program: its maps, its stops, what it may enter, its make. -/
namespace Go.Proofs.YtncleikbggjmjaaGreatDoor
set_option maxRecDepth 100000 in
theorem facts_maps : mapsRowed Tryz.prog = true := by kernel_rfl
set_option maxRecDepth 100000 in
theorem facts_stops : Tryz.prog.stops = [] := by kernel_rfl
set_option maxRecDepth 100000 in
theorem facts_knobs : Tryz.prog.stopKnobs = [] := by kernel_rfl
set_option maxRecDepth 100000 in
theorem facts_heard : Tryz.prog.stopsHeard = true := by kernel_rfl
set_option maxRecDepth 100000 in
theorem facts_plain : Tryz.prog.plainKeys = true := by kernel_rfl
end Go.Proofs.YtncleikbggjmjaaGreatDoor
