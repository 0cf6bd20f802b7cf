/- The program's tables, asked once: which structs and arrays are of numbers alone. -/
import Derived.Test.YtnklkobhjdkblaaDoorSxI
import Derived.Test.YtnklkobhjdkblaaDoorFa
namespace Go.Proofs.YtnklkobhjdkblaaDoor
open Go.Sx Go.Proofs
theorem is_29 : isStruct Tryd.prog 29 7 = true := by kernel_rfl
theorem is_30 : isStruct Tryd.prog 30 7 = true := by kernel_rfl
theorem is_34 : isStruct Tryd.prog 34 2 = true := by kernel_rfl
theorem is_35 : isStruct Tryd.prog 35 2 = true := by kernel_rfl
theorem eg_42 : Tryd.prog.eqGuardType Tryd.prog.depth 42 = false := by kernel_rfl
theorem is_69 : isStruct Tryd.prog 69 3 = true := by kernel_rfl
theorem is_70 : isStruct Tryd.prog 70 3 = true := by kernel_rfl
theorem is_105 : isStruct Tryd.prog 105 2 = true := by kernel_rfl
theorem is_106 : isStruct Tryd.prog 106 2 = true := by kernel_rfl
theorem is_128 : isStruct Tryd.prog 128 2 = true := by kernel_rfl
theorem is_129 : isStruct Tryd.prog 129 2 = true := by kernel_rfl
end Go.Proofs.YtnklkobhjdkblaaDoor
