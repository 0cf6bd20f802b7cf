/- The program's tables, asked once: which structs and arrays are of numbers alone. -/
import Derived.Test.YtdcjgjopmicidaaDoorSxI
import Derived.Test.YtdcjgjopmicidaaDoorFa
namespace Go.Proofs.YtdcjgjopmicidaaDoor
open Go.Sx Go.Proofs
theorem is_44 : isStruct Tryd.prog 44 2 = true := by kernel_rfl
theorem is_45 : isStruct Tryd.prog 45 2 = true := by kernel_rfl
theorem eg_46 : Tryd.prog.eqGuardType Tryd.prog.depth 46 = false := by kernel_rfl
theorem is_50 : isStruct Tryd.prog 50 2 = true := by kernel_rfl
theorem is_51 : isStruct Tryd.prog 51 2 = true := by kernel_rfl
theorem eg_56 : Tryd.prog.eqGuardType Tryd.prog.depth 56 = false := by kernel_rfl
theorem is_64 : isStruct Tryd.prog 64 7 = true := by kernel_rfl
theorem is_65 : isStruct Tryd.prog 65 7 = true := by kernel_rfl
theorem is_85 : isStruct Tryd.prog 85 2 = true := by kernel_rfl
theorem is_86 : isStruct Tryd.prog 86 2 = true := by kernel_rfl
theorem is_105 : isStruct Tryd.prog 105 2 = true := by kernel_rfl
theorem is_106 : isStruct Tryd.prog 106 2 = true := by kernel_rfl
end Go.Proofs.YtdcjgjopmicidaaDoor
