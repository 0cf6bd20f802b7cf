/- Texts of this proof, one behind the other: Fa, TaS. -/
import Derived.Test.YtdcjgjopmicidaaGreatDoorMt4
import Derived.Test.YtdcjgjopmicidaaGreatDoorProg
/- The program's tables, asked once. -/
namespace Go.Proofs.YtdcjgjopmicidaaGreatDoor
open Go.Sx Go.Proofs
theorem sz_1 : szOf Tryz.prog 1 = some 1 := by kernel_rfl
theorem by_1 : byOf Tryz.prog 1 = some 8 := by kernel_rfl
theorem ag_1 : aggOf Tryz.prog 1 = some false := by kernel_rfl
theorem zc_1 : zcOf Tryz.prog 1 = some [.nilFunc] := by kernel_rfl
theorem sz_2 : szOf Tryz.prog 2 = some 1 := by kernel_rfl
theorem by_2 : byOf Tryz.prog 2 = some 8 := by kernel_rfl
theorem ag_2 : aggOf Tryz.prog 2 = some false := by kernel_rfl
theorem zc_2 : zcOf Tryz.prog 2 = some [.int .i64 0] := by kernel_rfl
theorem zv_2 : (Tryz.prog.info? 2).bind (·.zero) = some (.int .i64 0) := by kernel_rfl
theorem sz_3 : szOf Tryz.prog 3 = some 1 := by kernel_rfl
theorem by_3 : byOf Tryz.prog 3 = some 8 := by kernel_rfl
theorem ag_3 : aggOf Tryz.prog 3 = some false := by kernel_rfl
theorem zc_3 : zcOf Tryz.prog 3 = some [.int .i64 0] := by kernel_rfl
theorem zv_3 : (Tryz.prog.info? 3).bind (·.zero) = some (.int .i64 0) := by kernel_rfl
theorem sz_4 : szOf Tryz.prog 4 = some 1 := by kernel_rfl
theorem by_4 : byOf Tryz.prog 4 = some 1 := by kernel_rfl
theorem ag_4 : aggOf Tryz.prog 4 = some false := by kernel_rfl
theorem zc_4 : zcOf Tryz.prog 4 = some [.bool false] := by kernel_rfl
theorem sz_5 : szOf Tryz.prog 5 = some 1 := by kernel_rfl
theorem by_5 : byOf Tryz.prog 5 = some 1 := by kernel_rfl
theorem ag_5 : aggOf Tryz.prog 5 = some false := by kernel_rfl
theorem zc_5 : zcOf Tryz.prog 5 = some [.int .u8 0] := by kernel_rfl
theorem zv_5 : (Tryz.prog.info? 5).bind (·.zero) = some (.int .u8 0) := by kernel_rfl
theorem sz_6 : szOf Tryz.prog 6 = some 1 := by kernel_rfl
theorem by_6 : byOf Tryz.prog 6 = some 1 := by kernel_rfl
theorem ag_6 : aggOf Tryz.prog 6 = some false := by kernel_rfl
theorem zc_6 : zcOf Tryz.prog 6 = some [.int .u8 0] := by kernel_rfl
theorem zv_6 : (Tryz.prog.info? 6).bind (·.zero) = some (.int .u8 0) := by kernel_rfl
theorem sz_7 : szOf Tryz.prog 7 = some 4 := by kernel_rfl
theorem by_7 : byOf Tryz.prog 7 = some 24 := by kernel_rfl
theorem ag_7 : aggOf Tryz.prog 7 = some true := by kernel_rfl
theorem zc_7 : zcOf Tryz.prog 7 = some [.int .i64 0, .int .i64 0, .bool false, .int .u8 0] := by kernel_rfl
theorem sa_7 : isAggOf Tryz.prog 7 = true := by kernel_rfl
theorem pl_7 : plOf Tryz.prog 7 = some [(0, 1), (1, 1), (2, 1), (3, 1)] := by kernel_rfl
theorem fo_7_0 : foOf Tryz.prog 7 0 = some 0 := by kernel_rfl
theorem fi_7_0 : fiOf Tryz.prog 7 0 = some (0, 1, false) := by kernel_rfl
theorem fo_7_1 : foOf Tryz.prog 7 1 = some 1 := by kernel_rfl
theorem fi_7_1 : fiOf Tryz.prog 7 1 = some (1, 1, false) := by kernel_rfl
theorem fo_7_2 : foOf Tryz.prog 7 2 = some 2 := by kernel_rfl
theorem fi_7_2 : fiOf Tryz.prog 7 2 = some (2, 1, false) := by kernel_rfl
theorem fo_7_3 : foOf Tryz.prog 7 3 = some 3 := by kernel_rfl
theorem fi_7_3 : fiOf Tryz.prog 7 3 = some (3, 1, false) := by kernel_rfl
theorem sz_8 : szOf Tryz.prog 8 = some 4 := by kernel_rfl
theorem by_8 : byOf Tryz.prog 8 = some 24 := by kernel_rfl
theorem ag_8 : aggOf Tryz.prog 8 = some true := by kernel_rfl
theorem zc_8 : zcOf Tryz.prog 8 = some [.int .i64 0, .int .i64 0, .bool false, .int .u8 0] := by kernel_rfl
theorem sa_8 : isAggOf Tryz.prog 8 = true := by kernel_rfl
theorem pl_8 : plOf Tryz.prog 8 = some [(0, 1), (1, 1), (2, 1), (3, 1)] := by kernel_rfl
theorem fo_8_0 : foOf Tryz.prog 8 0 = some 0 := by kernel_rfl
theorem fi_8_0 : fiOf Tryz.prog 8 0 = some (0, 1, false) := by kernel_rfl
theorem fo_8_1 : foOf Tryz.prog 8 1 = some 1 := by kernel_rfl
theorem fi_8_1 : fiOf Tryz.prog 8 1 = some (1, 1, false) := by kernel_rfl
theorem fo_8_2 : foOf Tryz.prog 8 2 = some 2 := by kernel_rfl
theorem fi_8_2 : fiOf Tryz.prog 8 2 = some (2, 1, false) := by kernel_rfl
theorem fo_8_3 : foOf Tryz.prog 8 3 = some 3 := by kernel_rfl
theorem fi_8_3 : fiOf Tryz.prog 8 3 = some (3, 1, false) := by kernel_rfl
theorem sz_9 : szOf Tryz.prog 9 = some 1 := by kernel_rfl
theorem by_9 : byOf Tryz.prog 9 = some 16 := by kernel_rfl
theorem ag_9 : aggOf Tryz.prog 9 = some false := by kernel_rfl
theorem zc_9 : zcOf Tryz.prog 9 = some [.string .empty] := by kernel_rfl
theorem sz_10 : szOf Tryz.prog 10 = some 1 := by kernel_rfl
theorem by_10 : byOf Tryz.prog 10 = some 16 := by kernel_rfl
theorem ag_10 : aggOf Tryz.prog 10 = some false := by kernel_rfl
theorem zc_10 : zcOf Tryz.prog 10 = some [.string .empty] := by kernel_rfl
theorem sz_11 : szOf Tryz.prog 11 = some 1 := by kernel_rfl
theorem by_11 : byOf Tryz.prog 11 = some 16 := by kernel_rfl
theorem ag_11 : aggOf Tryz.prog 11 = some false := by kernel_rfl
theorem zc_11 : zcOf Tryz.prog 11 = some [.string .empty] := by kernel_rfl
theorem sz_12 : szOf Tryz.prog 12 = some 1 := by kernel_rfl
theorem by_12 : byOf Tryz.prog 12 = some 8 := by kernel_rfl
theorem ag_12 : aggOf Tryz.prog 12 = some false := by kernel_rfl
theorem zc_12 : zcOf Tryz.prog 12 = some [.int .u64 0] := by kernel_rfl
theorem zv_12 : (Tryz.prog.info? 12).bind (·.zero) = some (.int .u64 0) := by kernel_rfl
theorem sz_13 : szOf Tryz.prog 13 = some 2 := by kernel_rfl
theorem by_13 : byOf Tryz.prog 13 = some 24 := by kernel_rfl
theorem ag_13 : aggOf Tryz.prog 13 = some true := by kernel_rfl
theorem zc_13 : zcOf Tryz.prog 13 = some [.string .empty, .int .u64 0] := by kernel_rfl
theorem sa_13 : isAggOf Tryz.prog 13 = true := by kernel_rfl
theorem pl_13 : plOf Tryz.prog 13 = some [(0, 1), (1, 1)] := by kernel_rfl
theorem fo_13_0 : foOf Tryz.prog 13 0 = some 0 := by kernel_rfl
theorem fi_13_0 : fiOf Tryz.prog 13 0 = some (0, 1, false) := by kernel_rfl
theorem fo_13_1 : foOf Tryz.prog 13 1 = some 1 := by kernel_rfl
theorem fi_13_1 : fiOf Tryz.prog 13 1 = some (1, 1, false) := by kernel_rfl
theorem sz_14 : szOf Tryz.prog 14 = some 2 := by kernel_rfl
theorem by_14 : byOf Tryz.prog 14 = some 24 := by kernel_rfl
theorem ag_14 : aggOf Tryz.prog 14 = some true := by kernel_rfl
theorem zc_14 : zcOf Tryz.prog 14 = some [.string .empty, .int .u64 0] := by kernel_rfl
theorem sa_14 : isAggOf Tryz.prog 14 = true := by kernel_rfl
theorem pl_14 : plOf Tryz.prog 14 = some [(0, 1), (1, 1)] := by kernel_rfl
theorem fo_14_0 : foOf Tryz.prog 14 0 = some 0 := by kernel_rfl
theorem fi_14_0 : fiOf Tryz.prog 14 0 = some (0, 1, false) := by kernel_rfl
theorem fo_14_1 : foOf Tryz.prog 14 1 = some 1 := by kernel_rfl
theorem fi_14_1 : fiOf Tryz.prog 14 1 = some (1, 1, false) := by kernel_rfl
theorem sz_15 : szOf Tryz.prog 15 = some 1 := by kernel_rfl
theorem by_15 : byOf Tryz.prog 15 = some 8 := by kernel_rfl
theorem ag_15 : aggOf Tryz.prog 15 = some false := by kernel_rfl
theorem zc_15 : zcOf Tryz.prog 15 = some [.pointer none] := by kernel_rfl
theorem sz_16 : szOf Tryz.prog 16 = some 1 := by kernel_rfl
theorem by_16 : byOf Tryz.prog 16 = some 8 := by kernel_rfl
theorem ag_16 : aggOf Tryz.prog 16 = some false := by kernel_rfl
theorem zc_16 : zcOf Tryz.prog 16 = some [.pointer none] := by kernel_rfl
theorem sz_17 : szOf Tryz.prog 17 = some 1 := by kernel_rfl
theorem by_17 : byOf Tryz.prog 17 = some 8 := by kernel_rfl
theorem ag_17 : aggOf Tryz.prog 17 = some false := by kernel_rfl
theorem zc_17 : zcOf Tryz.prog 17 = some [.pointer none] := by kernel_rfl
theorem sz_18 : szOf Tryz.prog 18 = some 1 := by kernel_rfl
theorem by_18 : byOf Tryz.prog 18 = some 8 := by kernel_rfl
theorem ag_18 : aggOf Tryz.prog 18 = some true := by kernel_rfl
theorem zc_18 : zcOf Tryz.prog 18 = some [.pointer none] := by kernel_rfl
theorem sa_18 : isAggOf Tryz.prog 18 = true := by kernel_rfl
theorem pl_18 : plOf Tryz.prog 18 = some [(0, 1)] := by kernel_rfl
theorem fo_18_0 : foOf Tryz.prog 18 0 = some 0 := by kernel_rfl
theorem fi_18_0 : fiOf Tryz.prog 18 0 = some (0, 1, false) := by kernel_rfl
theorem sz_19 : szOf Tryz.prog 19 = some 1 := by kernel_rfl
theorem by_19 : byOf Tryz.prog 19 = some 8 := by kernel_rfl
theorem ag_19 : aggOf Tryz.prog 19 = some true := by kernel_rfl
theorem zc_19 : zcOf Tryz.prog 19 = some [.pointer none] := by kernel_rfl
theorem sa_19 : isAggOf Tryz.prog 19 = true := by kernel_rfl
theorem pl_19 : plOf Tryz.prog 19 = some [(0, 1)] := by kernel_rfl
theorem fo_19_0 : foOf Tryz.prog 19 0 = some 0 := by kernel_rfl
theorem fi_19_0 : fiOf Tryz.prog 19 0 = some (0, 1, false) := by kernel_rfl
theorem sz_20 : szOf Tryz.prog 20 = some 1 := by kernel_rfl
theorem by_20 : byOf Tryz.prog 20 = some 16 := by kernel_rfl
theorem ag_20 : aggOf Tryz.prog 20 = some false := by kernel_rfl
theorem zc_20 : zcOf Tryz.prog 20 = some [.nilIface] := by kernel_rfl
theorem sz_21 : szOf Tryz.prog 21 = some 1 := by kernel_rfl
theorem by_21 : byOf Tryz.prog 21 = some 4 := by kernel_rfl
theorem ag_21 : aggOf Tryz.prog 21 = some false := by kernel_rfl
theorem zc_21 : zcOf Tryz.prog 21 = some [.int .i32 0] := by kernel_rfl
theorem zv_21 : (Tryz.prog.info? 21).bind (·.zero) = some (.int .i32 0) := by kernel_rfl
theorem sz_22 : szOf Tryz.prog 22 = some 1 := by kernel_rfl
theorem by_22 : byOf Tryz.prog 22 = some 24 := by kernel_rfl
theorem ag_22 : aggOf Tryz.prog 22 = some false := by kernel_rfl
theorem zc_22 : zcOf Tryz.prog 22 = some [.slice none 0 0] := by kernel_rfl
theorem sz_23 : szOf Tryz.prog 23 = some 1 := by kernel_rfl
theorem by_23 : byOf Tryz.prog 23 = some 24 := by kernel_rfl
theorem ag_23 : aggOf Tryz.prog 23 = some false := by kernel_rfl
theorem zc_23 : zcOf Tryz.prog 23 = some [.slice none 0 0] := by kernel_rfl
theorem sz_24 : szOf Tryz.prog 24 = some 1 := by kernel_rfl
theorem by_24 : byOf Tryz.prog 24 = some 8 := by kernel_rfl
theorem ag_24 : aggOf Tryz.prog 24 = some false := by kernel_rfl
theorem zc_24 : zcOf Tryz.prog 24 = some [.nilFunc] := by kernel_rfl
theorem sz_25 : szOf Tryz.prog 25 = some 1 := by kernel_rfl
theorem by_25 : byOf Tryz.prog 25 = some 8 := by kernel_rfl
theorem ag_25 : aggOf Tryz.prog 25 = some false := by kernel_rfl
theorem zc_25 : zcOf Tryz.prog 25 = some [.nilFunc] := by kernel_rfl
theorem sz_26 : szOf Tryz.prog 26 = some 1 := by kernel_rfl
theorem by_26 : byOf Tryz.prog 26 = some 8 := by kernel_rfl
theorem ag_26 : aggOf Tryz.prog 26 = some false := by kernel_rfl
theorem zc_26 : zcOf Tryz.prog 26 = some [.int .i64 0] := by kernel_rfl
theorem zv_26 : (Tryz.prog.info? 26).bind (·.zero) = some (.int .i64 0) := by kernel_rfl
theorem sz_28 : szOf Tryz.prog 28 = some 1 := by kernel_rfl
theorem by_28 : byOf Tryz.prog 28 = some 8 := by kernel_rfl
theorem ag_28 : aggOf Tryz.prog 28 = some false := by kernel_rfl
theorem zc_28 : zcOf Tryz.prog 28 = some [.nilFunc] := by kernel_rfl
theorem sz_30 : szOf Tryz.prog 30 = some 1 := by kernel_rfl
theorem by_30 : byOf Tryz.prog 30 = some 8 := by kernel_rfl
theorem ag_30 : aggOf Tryz.prog 30 = some false := by kernel_rfl
theorem zc_30 : zcOf Tryz.prog 30 = some [.nilFunc] := by kernel_rfl
theorem sz_31 : szOf Tryz.prog 31 = some 1 := by kernel_rfl
theorem by_31 : byOf Tryz.prog 31 = some 8 := by kernel_rfl
theorem ag_31 : aggOf Tryz.prog 31 = some false := by kernel_rfl
theorem zc_31 : zcOf Tryz.prog 31 = some [.nilFunc] := by kernel_rfl
theorem sz_32 : szOf Tryz.prog 32 = some 1 := by kernel_rfl
theorem by_32 : byOf Tryz.prog 32 = some 8 := by kernel_rfl
theorem ag_32 : aggOf Tryz.prog 32 = some false := by kernel_rfl
theorem zc_32 : zcOf Tryz.prog 32 = some [.nilFunc] := by kernel_rfl
theorem sz_33 : szOf Tryz.prog 33 = some 1 := by kernel_rfl
theorem by_33 : byOf Tryz.prog 33 = some 24 := by kernel_rfl
theorem ag_33 : aggOf Tryz.prog 33 = some false := by kernel_rfl
theorem zc_33 : zcOf Tryz.prog 33 = some [.slice none 0 0] := by kernel_rfl
theorem sz_34 : szOf Tryz.prog 34 = some 1 := by kernel_rfl
theorem by_34 : byOf Tryz.prog 34 = some 2 := by kernel_rfl
theorem ag_34 : aggOf Tryz.prog 34 = some false := by kernel_rfl
theorem zc_34 : zcOf Tryz.prog 34 = some [.int .u16 0] := by kernel_rfl
theorem zv_34 : (Tryz.prog.info? 34).bind (·.zero) = some (.int .u16 0) := by kernel_rfl
theorem sz_36 : szOf Tryz.prog 36 = some 1 := by kernel_rfl
theorem by_36 : byOf Tryz.prog 36 = some 8 := by kernel_rfl
theorem ag_36 : aggOf Tryz.prog 36 = some false := by kernel_rfl
theorem zc_36 : zcOf Tryz.prog 36 = some [.nilFunc] := by kernel_rfl
theorem sz_37 : szOf Tryz.prog 37 = some 1 := by kernel_rfl
theorem by_37 : byOf Tryz.prog 37 = some 24 := by kernel_rfl
theorem ag_37 : aggOf Tryz.prog 37 = some false := by kernel_rfl
theorem zc_37 : zcOf Tryz.prog 37 = some [.slice none 0 0] := by kernel_rfl
theorem sz_38 : szOf Tryz.prog 38 = some 2 := by kernel_rfl
theorem by_38 : byOf Tryz.prog 38 = some 40 := by kernel_rfl
theorem ag_38 : aggOf Tryz.prog 38 = some true := by kernel_rfl
theorem zc_38 : zcOf Tryz.prog 38 = some [.string .empty, .slice none 0 0] := by kernel_rfl
theorem sa_38 : isAggOf Tryz.prog 38 = true := by kernel_rfl
theorem pl_38 : plOf Tryz.prog 38 = some [(0, 1), (1, 1)] := by kernel_rfl
theorem fo_38_0 : foOf Tryz.prog 38 0 = some 0 := by kernel_rfl
theorem fi_38_0 : fiOf Tryz.prog 38 0 = some (0, 1, false) := by kernel_rfl
theorem fo_38_1 : foOf Tryz.prog 38 1 = some 1 := by kernel_rfl
theorem fi_38_1 : fiOf Tryz.prog 38 1 = some (1, 1, false) := by kernel_rfl
theorem sz_39 : szOf Tryz.prog 39 = some 2 := by kernel_rfl
theorem by_39 : byOf Tryz.prog 39 = some 40 := by kernel_rfl
theorem ag_39 : aggOf Tryz.prog 39 = some true := by kernel_rfl
theorem zc_39 : zcOf Tryz.prog 39 = some [.string .empty, .slice none 0 0] := by kernel_rfl
theorem sa_39 : isAggOf Tryz.prog 39 = true := by kernel_rfl
theorem pl_39 : plOf Tryz.prog 39 = some [(0, 1), (1, 1)] := by kernel_rfl
theorem fo_39_0 : foOf Tryz.prog 39 0 = some 0 := by kernel_rfl
theorem fi_39_0 : fiOf Tryz.prog 39 0 = some (0, 1, false) := by kernel_rfl
theorem fo_39_1 : foOf Tryz.prog 39 1 = some 1 := by kernel_rfl
theorem fi_39_1 : fiOf Tryz.prog 39 1 = some (1, 1, false) := by kernel_rfl
theorem sz_41 : szOf Tryz.prog 41 = some 1 := by kernel_rfl
theorem by_41 : byOf Tryz.prog 41 = some 8 := by kernel_rfl
theorem ag_41 : aggOf Tryz.prog 41 = some false := by kernel_rfl
theorem zc_41 : zcOf Tryz.prog 41 = some [.nilFunc] := by kernel_rfl
theorem sz_42 : szOf Tryz.prog 42 = some 1 := by kernel_rfl
theorem by_42 : byOf Tryz.prog 42 = some 8 := by kernel_rfl
theorem ag_42 : aggOf Tryz.prog 42 = some false := by kernel_rfl
theorem zc_42 : zcOf Tryz.prog 42 = some [.nilFunc] := by kernel_rfl
theorem sz_43 : szOf Tryz.prog 43 = some 1 := by kernel_rfl
theorem by_43 : byOf Tryz.prog 43 = some 8 := by kernel_rfl
theorem ag_43 : aggOf Tryz.prog 43 = some false := by kernel_rfl
theorem zc_43 : zcOf Tryz.prog 43 = some [.nilFunc] := by kernel_rfl
theorem sz_45 : szOf Tryz.prog 45 = some 1 := by kernel_rfl
theorem by_45 : byOf Tryz.prog 45 = some 8 := by kernel_rfl
theorem ag_45 : aggOf Tryz.prog 45 = some false := by kernel_rfl
theorem zc_45 : zcOf Tryz.prog 45 = some [.nilFunc] := by kernel_rfl
theorem sz_47 : szOf Tryz.prog 47 = some 1 := by kernel_rfl
theorem by_47 : byOf Tryz.prog 47 = some 8 := by kernel_rfl
theorem ag_47 : aggOf Tryz.prog 47 = some false := by kernel_rfl
theorem zc_47 : zcOf Tryz.prog 47 = some [.nilFunc] := by kernel_rfl
theorem sz_48 : szOf Tryz.prog 48 = some 1 := by kernel_rfl
theorem by_48 : byOf Tryz.prog 48 = some 24 := by kernel_rfl
theorem ag_48 : aggOf Tryz.prog 48 = some false := by kernel_rfl
theorem zc_48 : zcOf Tryz.prog 48 = some [.slice none 0 0] := by kernel_rfl
theorem sz_50 : szOf Tryz.prog 50 = some 1 := by kernel_rfl
theorem by_50 : byOf Tryz.prog 50 = some 8 := by kernel_rfl
theorem ag_50 : aggOf Tryz.prog 50 = some false := by kernel_rfl
theorem zc_50 : zcOf Tryz.prog 50 = some [.nilFunc] := by kernel_rfl
theorem sz_51 : szOf Tryz.prog 51 = some 2 := by kernel_rfl
theorem by_51 : byOf Tryz.prog 51 = some 16 := by kernel_rfl
theorem ag_51 : aggOf Tryz.prog 51 = some true := by kernel_rfl
theorem zc_51 : zcOf Tryz.prog 51 = some [.int .i64 0, .int .i64 0] := by kernel_rfl
theorem sa_51 : isAggOf Tryz.prog 51 = true := by kernel_rfl
theorem pl_51 : plOf Tryz.prog 51 = some [(0, 1), (1, 1)] := by kernel_rfl
theorem fo_51_0 : foOf Tryz.prog 51 0 = some 0 := by kernel_rfl
theorem fi_51_0 : fiOf Tryz.prog 51 0 = some (0, 1, false) := by kernel_rfl
theorem fo_51_1 : foOf Tryz.prog 51 1 = some 1 := by kernel_rfl
theorem fi_51_1 : fiOf Tryz.prog 51 1 = some (1, 1, false) := by kernel_rfl
theorem sz_52 : szOf Tryz.prog 52 = some 2 := by kernel_rfl
theorem by_52 : byOf Tryz.prog 52 = some 16 := by kernel_rfl
theorem ag_52 : aggOf Tryz.prog 52 = some true := by kernel_rfl
theorem zc_52 : zcOf Tryz.prog 52 = some [.int .i64 0, .int .i64 0] := by kernel_rfl
theorem sa_52 : isAggOf Tryz.prog 52 = true := by kernel_rfl
theorem pl_52 : plOf Tryz.prog 52 = some [(0, 1), (1, 1)] := by kernel_rfl
theorem fo_52_0 : foOf Tryz.prog 52 0 = some 0 := by kernel_rfl
theorem fi_52_0 : fiOf Tryz.prog 52 0 = some (0, 1, false) := by kernel_rfl
theorem fo_52_1 : foOf Tryz.prog 52 1 = some 1 := by kernel_rfl
theorem fi_52_1 : fiOf Tryz.prog 52 1 = some (1, 1, false) := by kernel_rfl
theorem sz_53 : szOf Tryz.prog 53 = some 2 := by kernel_rfl
theorem by_53 : byOf Tryz.prog 53 = some 16 := by kernel_rfl
theorem ag_53 : aggOf Tryz.prog 53 = some true := by kernel_rfl
theorem zc_53 : zcOf Tryz.prog 53 = some [.int .i64 0, .int .i64 0] := by kernel_rfl
theorem sa_53 : isAggOf Tryz.prog 53 = true := by kernel_rfl
theorem pl_53 : plOf Tryz.prog 53 = some [(0, 1), (1, 1)] := by kernel_rfl
theorem sz_54 : szOf Tryz.prog 54 = some 1 := by kernel_rfl
theorem by_54 : byOf Tryz.prog 54 = some 8 := by kernel_rfl
theorem ag_54 : aggOf Tryz.prog 54 = some false := by kernel_rfl
theorem zc_54 : zcOf Tryz.prog 54 = some [.nilFunc] := by kernel_rfl
theorem sz_55 : szOf Tryz.prog 55 = some 1 := by kernel_rfl
theorem by_55 : byOf Tryz.prog 55 = some 8 := by kernel_rfl
theorem ag_55 : aggOf Tryz.prog 55 = some false := by kernel_rfl
theorem zc_55 : zcOf Tryz.prog 55 = some [.pointer none] := by kernel_rfl
theorem sz_56 : szOf Tryz.prog 56 = some 2 := by kernel_rfl
theorem by_56 : byOf Tryz.prog 56 = some 32 := by kernel_rfl
theorem ag_56 : aggOf Tryz.prog 56 = some true := by kernel_rfl
theorem zc_56 : zcOf Tryz.prog 56 = some [.pointer none, .slice none 0 0] := by kernel_rfl
theorem sa_56 : isAggOf Tryz.prog 56 = true := by kernel_rfl
theorem pl_56 : plOf Tryz.prog 56 = some [(0, 1), (1, 1)] := by kernel_rfl
theorem fo_56_0 : foOf Tryz.prog 56 0 = some 0 := by kernel_rfl
theorem fi_56_0 : fiOf Tryz.prog 56 0 = some (0, 1, false) := by kernel_rfl
theorem fo_56_1 : foOf Tryz.prog 56 1 = some 1 := by kernel_rfl
theorem fi_56_1 : fiOf Tryz.prog 56 1 = some (1, 1, false) := by kernel_rfl
theorem sz_57 : szOf Tryz.prog 57 = some 2 := by kernel_rfl
theorem by_57 : byOf Tryz.prog 57 = some 32 := by kernel_rfl
theorem ag_57 : aggOf Tryz.prog 57 = some true := by kernel_rfl
theorem zc_57 : zcOf Tryz.prog 57 = some [.pointer none, .slice none 0 0] := by kernel_rfl
theorem sa_57 : isAggOf Tryz.prog 57 = true := by kernel_rfl
theorem pl_57 : plOf Tryz.prog 57 = some [(0, 1), (1, 1)] := by kernel_rfl
theorem fo_57_0 : foOf Tryz.prog 57 0 = some 0 := by kernel_rfl
theorem fi_57_0 : fiOf Tryz.prog 57 0 = some (0, 1, false) := by kernel_rfl
theorem fo_57_1 : foOf Tryz.prog 57 1 = some 1 := by kernel_rfl
theorem fi_57_1 : fiOf Tryz.prog 57 1 = some (1, 1, false) := by kernel_rfl
theorem sz_58 : szOf Tryz.prog 58 = some 7 := by kernel_rfl
theorem by_58 : byOf Tryz.prog 58 = some 56 := by kernel_rfl
theorem ag_58 : aggOf Tryz.prog 58 = some true := by kernel_rfl
theorem zc_58 : zcOf Tryz.prog 58 = some [.int .i64 0, .int .i64 0, .int .i64 0, .int .i64 0, .int .i64 0, .int .i64 0, .int .i64 0] := by kernel_rfl
theorem sa_58 : isAggOf Tryz.prog 58 = true := by kernel_rfl
theorem pl_58 : plOf Tryz.prog 58 = some [(0, 1), (1, 1), (2, 1), (3, 1), (4, 1), (5, 1), (6, 1)] := by kernel_rfl
theorem fo_58_0 : foOf Tryz.prog 58 0 = some 0 := by kernel_rfl
theorem fi_58_0 : fiOf Tryz.prog 58 0 = some (0, 1, false) := by kernel_rfl
theorem fo_58_1 : foOf Tryz.prog 58 1 = some 1 := by kernel_rfl
theorem fi_58_1 : fiOf Tryz.prog 58 1 = some (1, 1, false) := by kernel_rfl
theorem fo_58_2 : foOf Tryz.prog 58 2 = some 2 := by kernel_rfl
theorem fi_58_2 : fiOf Tryz.prog 58 2 = some (2, 1, false) := by kernel_rfl
theorem fo_58_3 : foOf Tryz.prog 58 3 = some 3 := by kernel_rfl
theorem fi_58_3 : fiOf Tryz.prog 58 3 = some (3, 1, false) := by kernel_rfl
theorem fo_58_4 : foOf Tryz.prog 58 4 = some 4 := by kernel_rfl
theorem fi_58_4 : fiOf Tryz.prog 58 4 = some (4, 1, false) := by kernel_rfl
theorem fo_58_5 : foOf Tryz.prog 58 5 = some 5 := by kernel_rfl
theorem fi_58_5 : fiOf Tryz.prog 58 5 = some (5, 1, false) := by kernel_rfl
theorem fo_58_6 : foOf Tryz.prog 58 6 = some 6 := by kernel_rfl
theorem fi_58_6 : fiOf Tryz.prog 58 6 = some (6, 1, false) := by kernel_rfl
theorem sz_59 : szOf Tryz.prog 59 = some 7 := by kernel_rfl
theorem by_59 : byOf Tryz.prog 59 = some 56 := by kernel_rfl
theorem ag_59 : aggOf Tryz.prog 59 = some true := by kernel_rfl
theorem zc_59 : zcOf Tryz.prog 59 = some [.int .i64 0, .int .i64 0, .int .i64 0, .int .i64 0, .int .i64 0, .int .i64 0, .int .i64 0] := by kernel_rfl
theorem sa_59 : isAggOf Tryz.prog 59 = true := by kernel_rfl
theorem pl_59 : plOf Tryz.prog 59 = some [(0, 1), (1, 1), (2, 1), (3, 1), (4, 1), (5, 1), (6, 1)] := by kernel_rfl
theorem fo_59_0 : foOf Tryz.prog 59 0 = some 0 := by kernel_rfl
theorem fi_59_0 : fiOf Tryz.prog 59 0 = some (0, 1, false) := by kernel_rfl
theorem fo_59_1 : foOf Tryz.prog 59 1 = some 1 := by kernel_rfl
theorem fi_59_1 : fiOf Tryz.prog 59 1 = some (1, 1, false) := by kernel_rfl
theorem fo_59_2 : foOf Tryz.prog 59 2 = some 2 := by kernel_rfl
theorem fi_59_2 : fiOf Tryz.prog 59 2 = some (2, 1, false) := by kernel_rfl
theorem fo_59_3 : foOf Tryz.prog 59 3 = some 3 := by kernel_rfl
theorem fi_59_3 : fiOf Tryz.prog 59 3 = some (3, 1, false) := by kernel_rfl
theorem fo_59_4 : foOf Tryz.prog 59 4 = some 4 := by kernel_rfl
theorem fi_59_4 : fiOf Tryz.prog 59 4 = some (4, 1, false) := by kernel_rfl
theorem fo_59_5 : foOf Tryz.prog 59 5 = some 5 := by kernel_rfl
theorem fi_59_5 : fiOf Tryz.prog 59 5 = some (5, 1, false) := by kernel_rfl
theorem fo_59_6 : foOf Tryz.prog 59 6 = some 6 := by kernel_rfl
theorem fi_59_6 : fiOf Tryz.prog 59 6 = some (6, 1, false) := by kernel_rfl
theorem sz_60 : szOf Tryz.prog 60 = some 1 := by kernel_rfl
theorem by_60 : byOf Tryz.prog 60 = some 16 := by kernel_rfl
theorem ag_60 : aggOf Tryz.prog 60 = some false := by kernel_rfl
theorem zc_60 : zcOf Tryz.prog 60 = some [.nilIface] := by kernel_rfl
theorem sz_61 : szOf Tryz.prog 61 = some 1 := by kernel_rfl
theorem by_61 : byOf Tryz.prog 61 = some 16 := by kernel_rfl
theorem ag_61 : aggOf Tryz.prog 61 = some false := by kernel_rfl
theorem zc_61 : zcOf Tryz.prog 61 = some [.nilIface] := by kernel_rfl
theorem sz_63 : szOf Tryz.prog 63 = some 1 := by kernel_rfl
theorem by_63 : byOf Tryz.prog 63 = some 8 := by kernel_rfl
theorem ag_63 : aggOf Tryz.prog 63 = some false := by kernel_rfl
theorem zc_63 : zcOf Tryz.prog 63 = some [.nilFunc] := by kernel_rfl
theorem sz_64 : szOf Tryz.prog 64 = some 6 := by kernel_rfl
theorem by_64 : byOf Tryz.prog 64 = some 48 := by kernel_rfl
theorem ag_64 : aggOf Tryz.prog 64 = some true := by kernel_rfl
theorem zc_64 : zcOf Tryz.prog 64 = some [.int .i64 0, .int .i64 0, .int .i64 0, .int .i64 0, .int .i64 0, .int .i64 0] := by kernel_rfl
theorem sa_64 : isAggOf Tryz.prog 64 = true := by kernel_rfl
theorem pl_64 : plOf Tryz.prog 64 = some [(0, 1), (1, 1), (2, 1), (3, 1), (4, 1), (5, 1)] := by kernel_rfl
theorem sz_65 : szOf Tryz.prog 65 = some 1 := by kernel_rfl
theorem by_65 : byOf Tryz.prog 65 = some 8 := by kernel_rfl
theorem ag_65 : aggOf Tryz.prog 65 = some false := by kernel_rfl
theorem zc_65 : zcOf Tryz.prog 65 = some [.nilFunc] := by kernel_rfl
theorem sz_66 : szOf Tryz.prog 66 = some 1 := by kernel_rfl
theorem by_66 : byOf Tryz.prog 66 = some 8 := by kernel_rfl
theorem ag_66 : aggOf Tryz.prog 66 = some false := by kernel_rfl
theorem zc_66 : zcOf Tryz.prog 66 = some [.nilFunc] := by kernel_rfl
theorem sz_67 : szOf Tryz.prog 67 = some 1 := by kernel_rfl
theorem by_67 : byOf Tryz.prog 67 = some 8 := by kernel_rfl
theorem ag_67 : aggOf Tryz.prog 67 = some false := by kernel_rfl
theorem zc_67 : zcOf Tryz.prog 67 = some [.nilFunc] := by kernel_rfl
theorem sz_68 : szOf Tryz.prog 68 = some 1 := by kernel_rfl
theorem by_68 : byOf Tryz.prog 68 = some 8 := by kernel_rfl
theorem ag_68 : aggOf Tryz.prog 68 = some false := by kernel_rfl
theorem zc_68 : zcOf Tryz.prog 68 = some [.nilFunc] := by kernel_rfl
theorem sz_69 : szOf Tryz.prog 69 = some 1 := by kernel_rfl
theorem by_69 : byOf Tryz.prog 69 = some 24 := by kernel_rfl
theorem ag_69 : aggOf Tryz.prog 69 = some false := by kernel_rfl
theorem zc_69 : zcOf Tryz.prog 69 = some [.slice none 0 0] := by kernel_rfl
theorem sz_70 : szOf Tryz.prog 70 = some 1 := by kernel_rfl
theorem by_70 : byOf Tryz.prog 70 = some 8 := by kernel_rfl
theorem ag_70 : aggOf Tryz.prog 70 = some false := by kernel_rfl
theorem zc_70 : zcOf Tryz.prog 70 = some [.nilFunc] := by kernel_rfl
theorem sz_71 : szOf Tryz.prog 71 = some 1 := by kernel_rfl
theorem by_71 : byOf Tryz.prog 71 = some 8 := by kernel_rfl
theorem ag_71 : aggOf Tryz.prog 71 = some false := by kernel_rfl
theorem zc_71 : zcOf Tryz.prog 71 = some [.map none] := by kernel_rfl
theorem sz_72 : szOf Tryz.prog 72 = some 1 := by kernel_rfl
theorem by_72 : byOf Tryz.prog 72 = some 8 := by kernel_rfl
theorem ag_72 : aggOf Tryz.prog 72 = some false := by kernel_rfl
theorem zc_72 : zcOf Tryz.prog 72 = some [.nilFunc] := by kernel_rfl
theorem sz_73 : szOf Tryz.prog 73 = some 1 := by kernel_rfl
theorem by_73 : byOf Tryz.prog 73 = some 8 := by kernel_rfl
theorem ag_73 : aggOf Tryz.prog 73 = some false := by kernel_rfl
theorem zc_73 : zcOf Tryz.prog 73 = some [.nilFunc] := by kernel_rfl
theorem sz_74 : szOf Tryz.prog 74 = some 1 := by kernel_rfl
theorem by_74 : byOf Tryz.prog 74 = some 8 := by kernel_rfl
theorem ag_74 : aggOf Tryz.prog 74 = some false := by kernel_rfl
theorem zc_74 : zcOf Tryz.prog 74 = some [.nilFunc] := by kernel_rfl
theorem sz_75 : szOf Tryz.prog 75 = some 1 := by kernel_rfl
theorem by_75 : byOf Tryz.prog 75 = some 24 := by kernel_rfl
theorem ag_75 : aggOf Tryz.prog 75 = some false := by kernel_rfl
theorem zc_75 : zcOf Tryz.prog 75 = some [.slice none 0 0] := by kernel_rfl
theorem sz_76 : szOf Tryz.prog 76 = some 1 := by kernel_rfl
theorem by_76 : byOf Tryz.prog 76 = some 8 := by kernel_rfl
theorem ag_76 : aggOf Tryz.prog 76 = some false := by kernel_rfl
theorem zc_76 : zcOf Tryz.prog 76 = some [.nilFunc] := by kernel_rfl
theorem sz_77 : szOf Tryz.prog 77 = some 1 := by kernel_rfl
theorem by_77 : byOf Tryz.prog 77 = some 8 := by kernel_rfl
theorem ag_77 : aggOf Tryz.prog 77 = some false := by kernel_rfl
theorem zc_77 : zcOf Tryz.prog 77 = some [.nilFunc] := by kernel_rfl
theorem sz_78 : szOf Tryz.prog 78 = some 8 := by kernel_rfl
theorem by_78 : byOf Tryz.prog 78 = some 64 := by kernel_rfl
theorem ag_78 : aggOf Tryz.prog 78 = some true := by kernel_rfl
theorem zc_78 : zcOf Tryz.prog 78 = some [.int .i64 0, .int .i64 0, .int .i64 0, .int .i64 0, .int .i64 0, .int .i64 0, .int .i64 0, .int .i64 0] := by kernel_rfl
theorem sa_78 : isAggOf Tryz.prog 78 = true := by kernel_rfl
theorem pl_78 : plOf Tryz.prog 78 = some [(0, 1), (1, 1), (2, 1), (3, 1), (4, 1), (5, 1), (6, 1), (7, 1)] := by kernel_rfl
theorem sz_80 : szOf Tryz.prog 80 = some 1 := by kernel_rfl
theorem by_80 : byOf Tryz.prog 80 = some 8 := by kernel_rfl
theorem ag_80 : aggOf Tryz.prog 80 = some false := by kernel_rfl
theorem zc_80 : zcOf Tryz.prog 80 = some [.nilFunc] := by kernel_rfl
theorem sz_81 : szOf Tryz.prog 81 = some 1 := by kernel_rfl
theorem by_81 : byOf Tryz.prog 81 = some 8 := by kernel_rfl
theorem ag_81 : aggOf Tryz.prog 81 = some false := by kernel_rfl
theorem zc_81 : zcOf Tryz.prog 81 = some [.nilFunc] := by kernel_rfl
theorem sz_82 : szOf Tryz.prog 82 = some 1 := by kernel_rfl
theorem by_82 : byOf Tryz.prog 82 = some 8 := by kernel_rfl
theorem ag_82 : aggOf Tryz.prog 82 = some false := by kernel_rfl
theorem zc_82 : zcOf Tryz.prog 82 = some [.nilFunc] := by kernel_rfl
theorem sz_83 : szOf Tryz.prog 83 = some 1 := by kernel_rfl
theorem by_83 : byOf Tryz.prog 83 = some 8 := by kernel_rfl
theorem ag_83 : aggOf Tryz.prog 83 = some false := by kernel_rfl
theorem zc_83 : zcOf Tryz.prog 83 = some [.pointer none] := by kernel_rfl
theorem sz_84 : szOf Tryz.prog 84 = some 1 := by kernel_rfl
theorem by_84 : byOf Tryz.prog 84 = some 4 := by kernel_rfl
theorem ag_84 : aggOf Tryz.prog 84 = some false := by kernel_rfl
theorem zc_84 : zcOf Tryz.prog 84 = some [.int .u32 0] := by kernel_rfl
theorem zv_84 : (Tryz.prog.info? 84).bind (·.zero) = some (.int .u32 0) := by kernel_rfl
theorem sz_85 : szOf Tryz.prog 85 = some 2 := by kernel_rfl
theorem by_85 : byOf Tryz.prog 85 = some 8 := by kernel_rfl
theorem ag_85 : aggOf Tryz.prog 85 = some true := by kernel_rfl
theorem zc_85 : zcOf Tryz.prog 85 = some [.int .u32 0, .int .u32 0] := by kernel_rfl
theorem sa_85 : isAggOf Tryz.prog 85 = true := by kernel_rfl
theorem pl_85 : plOf Tryz.prog 85 = some [(0, 1), (1, 1)] := by kernel_rfl
theorem fo_85_0 : foOf Tryz.prog 85 0 = some 0 := by kernel_rfl
theorem fi_85_0 : fiOf Tryz.prog 85 0 = some (0, 1, false) := by kernel_rfl
theorem fo_85_1 : foOf Tryz.prog 85 1 = some 1 := by kernel_rfl
theorem fi_85_1 : fiOf Tryz.prog 85 1 = some (1, 1, false) := by kernel_rfl
theorem sz_86 : szOf Tryz.prog 86 = some 2 := by kernel_rfl
theorem by_86 : byOf Tryz.prog 86 = some 8 := by kernel_rfl
theorem ag_86 : aggOf Tryz.prog 86 = some true := by kernel_rfl
theorem zc_86 : zcOf Tryz.prog 86 = some [.int .u32 0, .int .u32 0] := by kernel_rfl
theorem sa_86 : isAggOf Tryz.prog 86 = true := by kernel_rfl
theorem pl_86 : plOf Tryz.prog 86 = some [(0, 1), (1, 1)] := by kernel_rfl
theorem fo_86_0 : foOf Tryz.prog 86 0 = some 0 := by kernel_rfl
theorem fi_86_0 : fiOf Tryz.prog 86 0 = some (0, 1, false) := by kernel_rfl
theorem fo_86_1 : foOf Tryz.prog 86 1 = some 1 := by kernel_rfl
theorem fi_86_1 : fiOf Tryz.prog 86 1 = some (1, 1, false) := by kernel_rfl
theorem sz_87 : szOf Tryz.prog 87 = some 3 := by kernel_rfl
theorem by_87 : byOf Tryz.prog 87 = some 32 := by kernel_rfl
theorem ag_87 : aggOf Tryz.prog 87 = some true := by kernel_rfl
theorem zc_87 : zcOf Tryz.prog 87 = some [.int .u32 0, .int .u32 0, .slice none 0 0] := by kernel_rfl
theorem sa_87 : isAggOf Tryz.prog 87 = true := by kernel_rfl
theorem pl_87 : plOf Tryz.prog 87 = some [(0, 2), (2, 1)] := by kernel_rfl
theorem fo_87_0 : foOf Tryz.prog 87 0 = some 0 := by kernel_rfl
theorem fi_87_0 : fiOf Tryz.prog 87 0 = some (0, 2, true) := by kernel_rfl
theorem fo_87_1 : foOf Tryz.prog 87 1 = some 2 := by kernel_rfl
theorem fi_87_1 : fiOf Tryz.prog 87 1 = some (2, 1, false) := by kernel_rfl
theorem sz_88 : szOf Tryz.prog 88 = some 3 := by kernel_rfl
theorem by_88 : byOf Tryz.prog 88 = some 32 := by kernel_rfl
theorem ag_88 : aggOf Tryz.prog 88 = some true := by kernel_rfl
theorem zc_88 : zcOf Tryz.prog 88 = some [.int .u32 0, .int .u32 0, .slice none 0 0] := by kernel_rfl
theorem sa_88 : isAggOf Tryz.prog 88 = true := by kernel_rfl
theorem pl_88 : plOf Tryz.prog 88 = some [(0, 2), (2, 1)] := by kernel_rfl
theorem fo_88_0 : foOf Tryz.prog 88 0 = some 0 := by kernel_rfl
theorem fi_88_0 : fiOf Tryz.prog 88 0 = some (0, 2, true) := by kernel_rfl
theorem fo_88_1 : foOf Tryz.prog 88 1 = some 2 := by kernel_rfl
theorem fi_88_1 : fiOf Tryz.prog 88 1 = some (2, 1, false) := by kernel_rfl
theorem sz_89 : szOf Tryz.prog 89 = some 1 := by kernel_rfl
theorem by_89 : byOf Tryz.prog 89 = some 8 := by kernel_rfl
theorem ag_89 : aggOf Tryz.prog 89 = some false := by kernel_rfl
theorem zc_89 : zcOf Tryz.prog 89 = some [.nilFunc] := by kernel_rfl
theorem sz_90 : szOf Tryz.prog 90 = some 1 := by kernel_rfl
theorem by_90 : byOf Tryz.prog 90 = some 8 := by kernel_rfl
theorem ag_90 : aggOf Tryz.prog 90 = some false := by kernel_rfl
theorem zc_90 : zcOf Tryz.prog 90 = some [.nilFunc] := by kernel_rfl
theorem sz_91 : szOf Tryz.prog 91 = some 2 := by kernel_rfl
theorem by_91 : byOf Tryz.prog 91 = some 8 := by kernel_rfl
theorem ag_91 : aggOf Tryz.prog 91 = some true := by kernel_rfl
theorem zc_91 : zcOf Tryz.prog 91 = some [.int .u32 0, .int .u32 0] := by kernel_rfl
theorem sa_91 : isAggOf Tryz.prog 91 = true := by kernel_rfl
theorem pl_91 : plOf Tryz.prog 91 = some [(0, 1), (1, 1)] := by kernel_rfl
theorem sz_92 : szOf Tryz.prog 92 = some 1 := by kernel_rfl
theorem by_92 : byOf Tryz.prog 92 = some 8 := by kernel_rfl
theorem ag_92 : aggOf Tryz.prog 92 = some false := by kernel_rfl
theorem zc_92 : zcOf Tryz.prog 92 = some [.nilFunc] := by kernel_rfl
theorem sz_93 : szOf Tryz.prog 93 = some 1 := by kernel_rfl
theorem by_93 : byOf Tryz.prog 93 = some 8 := by kernel_rfl
theorem ag_93 : aggOf Tryz.prog 93 = some false := by kernel_rfl
theorem zc_93 : zcOf Tryz.prog 93 = some [.int .u64 0] := by kernel_rfl
theorem zv_93 : (Tryz.prog.info? 93).bind (·.zero) = some (.int .u64 0) := by kernel_rfl
theorem sz_94 : szOf Tryz.prog 94 = some 1 := by kernel_rfl
theorem by_94 : byOf Tryz.prog 94 = some 8 := by kernel_rfl
theorem ag_94 : aggOf Tryz.prog 94 = some false := by kernel_rfl
theorem zc_94 : zcOf Tryz.prog 94 = some [.nilFunc] := by kernel_rfl
theorem sz_95 : szOf Tryz.prog 95 = some 1 := by kernel_rfl
theorem by_95 : byOf Tryz.prog 95 = some 8 := by kernel_rfl
theorem ag_95 : aggOf Tryz.prog 95 = some false := by kernel_rfl
theorem zc_95 : zcOf Tryz.prog 95 = some [.nilFunc] := by kernel_rfl
theorem sz_96 : szOf Tryz.prog 96 = some 1 := by kernel_rfl
theorem by_96 : byOf Tryz.prog 96 = some 8 := by kernel_rfl
theorem ag_96 : aggOf Tryz.prog 96 = some false := by kernel_rfl
theorem zc_96 : zcOf Tryz.prog 96 = some [.pointer none] := by kernel_rfl
theorem sz_98 : szOf Tryz.prog 98 = some 1 := by kernel_rfl
theorem by_98 : byOf Tryz.prog 98 = some 8 := by kernel_rfl
theorem ag_98 : aggOf Tryz.prog 98 = some false := by kernel_rfl
theorem zc_98 : zcOf Tryz.prog 98 = some [.nilFunc] := by kernel_rfl
theorem sz_99 : szOf Tryz.prog 99 = some 1 := by kernel_rfl
theorem by_99 : byOf Tryz.prog 99 = some 24 := by kernel_rfl
theorem ag_99 : aggOf Tryz.prog 99 = some false := by kernel_rfl
theorem zc_99 : zcOf Tryz.prog 99 = some [.slice none 0 0] := by kernel_rfl
theorem sz_100 : szOf Tryz.prog 100 = some 3 := by kernel_rfl
theorem by_100 : byOf Tryz.prog 100 = some 56 := by kernel_rfl
theorem ag_100 : aggOf Tryz.prog 100 = some true := by kernel_rfl
theorem zc_100 : zcOf Tryz.prog 100 = some [.slice none 0 0, .slice none 0 0, .int .i64 0] := by kernel_rfl
theorem sa_100 : isAggOf Tryz.prog 100 = true := by kernel_rfl
theorem pl_100 : plOf Tryz.prog 100 = some [(0, 1), (1, 1), (2, 1)] := by kernel_rfl
theorem fo_100_0 : foOf Tryz.prog 100 0 = some 0 := by kernel_rfl
theorem fi_100_0 : fiOf Tryz.prog 100 0 = some (0, 1, false) := by kernel_rfl
theorem fo_100_1 : foOf Tryz.prog 100 1 = some 1 := by kernel_rfl
theorem fi_100_1 : fiOf Tryz.prog 100 1 = some (1, 1, false) := by kernel_rfl
theorem fo_100_2 : foOf Tryz.prog 100 2 = some 2 := by kernel_rfl
theorem fi_100_2 : fiOf Tryz.prog 100 2 = some (2, 1, false) := by kernel_rfl
theorem sz_101 : szOf Tryz.prog 101 = some 3 := by kernel_rfl
theorem by_101 : byOf Tryz.prog 101 = some 56 := by kernel_rfl
theorem ag_101 : aggOf Tryz.prog 101 = some true := by kernel_rfl
theorem zc_101 : zcOf Tryz.prog 101 = some [.slice none 0 0, .slice none 0 0, .int .i64 0] := by kernel_rfl
theorem sa_101 : isAggOf Tryz.prog 101 = true := by kernel_rfl
theorem pl_101 : plOf Tryz.prog 101 = some [(0, 1), (1, 1), (2, 1)] := by kernel_rfl
theorem fo_101_0 : foOf Tryz.prog 101 0 = some 0 := by kernel_rfl
theorem fi_101_0 : fiOf Tryz.prog 101 0 = some (0, 1, false) := by kernel_rfl
theorem fo_101_1 : foOf Tryz.prog 101 1 = some 1 := by kernel_rfl
theorem fi_101_1 : fiOf Tryz.prog 101 1 = some (1, 1, false) := by kernel_rfl
theorem fo_101_2 : foOf Tryz.prog 101 2 = some 2 := by kernel_rfl
theorem fi_101_2 : fiOf Tryz.prog 101 2 = some (2, 1, false) := by kernel_rfl
theorem sz_102 : szOf Tryz.prog 102 = some 10 := by kernel_rfl
theorem by_102 : byOf Tryz.prog 102 = some 80 := by kernel_rfl
theorem ag_102 : aggOf Tryz.prog 102 = some true := by kernel_rfl
theorem zc_102 : zcOf Tryz.prog 102 = some [.int .i64 0, .int .i64 0, .int .i64 0, .int .i64 0, .int .i64 0, .int .i64 0, .int .i64 0, .int .i64 0, .int .i64 0, .int .i64 0] := by kernel_rfl
theorem sa_102 : isAggOf Tryz.prog 102 = true := by kernel_rfl
theorem pl_102 : plOf Tryz.prog 102 = some [(0, 7), (7, 1), (8, 1), (9, 1)] := by kernel_rfl
theorem fo_102_0 : foOf Tryz.prog 102 0 = some 0 := by kernel_rfl
theorem fi_102_0 : fiOf Tryz.prog 102 0 = some (0, 7, true) := by kernel_rfl
theorem fo_102_1 : foOf Tryz.prog 102 1 = some 7 := by kernel_rfl
theorem fi_102_1 : fiOf Tryz.prog 102 1 = some (7, 1, false) := by kernel_rfl
theorem fo_102_2 : foOf Tryz.prog 102 2 = some 8 := by kernel_rfl
theorem fi_102_2 : fiOf Tryz.prog 102 2 = some (8, 1, false) := by kernel_rfl
theorem fo_102_3 : foOf Tryz.prog 102 3 = some 9 := by kernel_rfl
theorem fi_102_3 : fiOf Tryz.prog 102 3 = some (9, 1, false) := by kernel_rfl
theorem sz_103 : szOf Tryz.prog 103 = some 10 := by kernel_rfl
theorem by_103 : byOf Tryz.prog 103 = some 80 := by kernel_rfl
theorem ag_103 : aggOf Tryz.prog 103 = some true := by kernel_rfl
theorem zc_103 : zcOf Tryz.prog 103 = some [.int .i64 0, .int .i64 0, .int .i64 0, .int .i64 0, .int .i64 0, .int .i64 0, .int .i64 0, .int .i64 0, .int .i64 0, .int .i64 0] := by kernel_rfl
theorem sa_103 : isAggOf Tryz.prog 103 = true := by kernel_rfl
theorem pl_103 : plOf Tryz.prog 103 = some [(0, 7), (7, 1), (8, 1), (9, 1)] := by kernel_rfl
theorem fo_103_0 : foOf Tryz.prog 103 0 = some 0 := by kernel_rfl
theorem fi_103_0 : fiOf Tryz.prog 103 0 = some (0, 7, true) := by kernel_rfl
theorem fo_103_1 : foOf Tryz.prog 103 1 = some 7 := by kernel_rfl
theorem fi_103_1 : fiOf Tryz.prog 103 1 = some (7, 1, false) := by kernel_rfl
theorem fo_103_2 : foOf Tryz.prog 103 2 = some 8 := by kernel_rfl
theorem fi_103_2 : fiOf Tryz.prog 103 2 = some (8, 1, false) := by kernel_rfl
theorem fo_103_3 : foOf Tryz.prog 103 3 = some 9 := by kernel_rfl
theorem fi_103_3 : fiOf Tryz.prog 103 3 = some (9, 1, false) := by kernel_rfl
theorem sz_104 : szOf Tryz.prog 104 = some 1 := by kernel_rfl
theorem by_104 : byOf Tryz.prog 104 = some 8 := by kernel_rfl
theorem ag_104 : aggOf Tryz.prog 104 = some false := by kernel_rfl
theorem zc_104 : zcOf Tryz.prog 104 = some [.nilFunc] := by kernel_rfl
theorem sz_105 : szOf Tryz.prog 105 = some 1 := by kernel_rfl
theorem by_105 : byOf Tryz.prog 105 = some 8 := by kernel_rfl
theorem ag_105 : aggOf Tryz.prog 105 = some false := by kernel_rfl
theorem zc_105 : zcOf Tryz.prog 105 = some [.nilFunc] := by kernel_rfl
theorem sz_106 : szOf Tryz.prog 106 = some 1 := by kernel_rfl
theorem by_106 : byOf Tryz.prog 106 = some 8 := by kernel_rfl
theorem ag_106 : aggOf Tryz.prog 106 = some false := by kernel_rfl
theorem zc_106 : zcOf Tryz.prog 106 = some [.nilFunc] := by kernel_rfl
theorem sz_107 : szOf Tryz.prog 107 = some 1 := by kernel_rfl
theorem by_107 : byOf Tryz.prog 107 = some 8 := by kernel_rfl
theorem ag_107 : aggOf Tryz.prog 107 = some false := by kernel_rfl
theorem zc_107 : zcOf Tryz.prog 107 = some [.nilFunc] := by kernel_rfl
theorem sz_108 : szOf Tryz.prog 108 = some 1 := by kernel_rfl
theorem by_108 : byOf Tryz.prog 108 = some 8 := by kernel_rfl
theorem ag_108 : aggOf Tryz.prog 108 = some false := by kernel_rfl
theorem zc_108 : zcOf Tryz.prog 108 = some [.nilFunc] := by kernel_rfl
theorem sz_109 : szOf Tryz.prog 109 = some 1 := by kernel_rfl
theorem by_109 : byOf Tryz.prog 109 = some 8 := by kernel_rfl
theorem ag_109 : aggOf Tryz.prog 109 = some false := by kernel_rfl
theorem zc_109 : zcOf Tryz.prog 109 = some [.nilFunc] := by kernel_rfl
theorem sz_110 : szOf Tryz.prog 110 = some 1 := by kernel_rfl
theorem by_110 : byOf Tryz.prog 110 = some 8 := by kernel_rfl
theorem ag_110 : aggOf Tryz.prog 110 = some false := by kernel_rfl
theorem zc_110 : zcOf Tryz.prog 110 = some [.pointer none] := by kernel_rfl
theorem sz_111 : szOf Tryz.prog 111 = some 1 := by kernel_rfl
theorem by_111 : byOf Tryz.prog 111 = some 8 := by kernel_rfl
theorem ag_111 : aggOf Tryz.prog 111 = some false := by kernel_rfl
theorem zc_111 : zcOf Tryz.prog 111 = some [.nilFunc] := by kernel_rfl
theorem sz_112 : szOf Tryz.prog 112 = some 1 := by kernel_rfl
theorem by_112 : byOf Tryz.prog 112 = some 8 := by kernel_rfl
theorem ag_112 : aggOf Tryz.prog 112 = some false := by kernel_rfl
theorem zc_112 : zcOf Tryz.prog 112 = some [.nilFunc] := by kernel_rfl
theorem sz_113 : szOf Tryz.prog 113 = some 1 := by kernel_rfl
theorem by_113 : byOf Tryz.prog 113 = some 8 := by kernel_rfl
theorem ag_113 : aggOf Tryz.prog 113 = some false := by kernel_rfl
theorem zc_113 : zcOf Tryz.prog 113 = some [.nilFunc] := by kernel_rfl
theorem sz_114 : szOf Tryz.prog 114 = some 1 := by kernel_rfl
theorem by_114 : byOf Tryz.prog 114 = some 8 := by kernel_rfl
theorem ag_114 : aggOf Tryz.prog 114 = some false := by kernel_rfl
theorem zc_114 : zcOf Tryz.prog 114 = some [.nilFunc] := by kernel_rfl
theorem sz_115 : szOf Tryz.prog 115 = some 1 := by kernel_rfl
theorem by_115 : byOf Tryz.prog 115 = some 8 := by kernel_rfl
theorem ag_115 : aggOf Tryz.prog 115 = some false := by kernel_rfl
theorem zc_115 : zcOf Tryz.prog 115 = some [.nilFunc] := by kernel_rfl
theorem sz_116 : szOf Tryz.prog 116 = some 1 := by kernel_rfl
theorem by_116 : byOf Tryz.prog 116 = some 8 := by kernel_rfl
theorem ag_116 : aggOf Tryz.prog 116 = some false := by kernel_rfl
theorem zc_116 : zcOf Tryz.prog 116 = some [.nilFunc] := by kernel_rfl
theorem sz_117 : szOf Tryz.prog 117 = some 1 := by kernel_rfl
theorem by_117 : byOf Tryz.prog 117 = some 8 := by kernel_rfl
theorem ag_117 : aggOf Tryz.prog 117 = some false := by kernel_rfl
theorem zc_117 : zcOf Tryz.prog 117 = some [.nilFunc] := by kernel_rfl
theorem sz_118 : szOf Tryz.prog 118 = some 1 := by kernel_rfl
theorem by_118 : byOf Tryz.prog 118 = some 8 := by kernel_rfl
theorem ag_118 : aggOf Tryz.prog 118 = some false := by kernel_rfl
theorem zc_118 : zcOf Tryz.prog 118 = some [.nilFunc] := by kernel_rfl
theorem sz_119 : szOf Tryz.prog 119 = some 1 := by kernel_rfl
theorem by_119 : byOf Tryz.prog 119 = some 8 := by kernel_rfl
theorem ag_119 : aggOf Tryz.prog 119 = some false := by kernel_rfl
theorem zc_119 : zcOf Tryz.prog 119 = some [.nilFunc] := by kernel_rfl
theorem sz_120 : szOf Tryz.prog 120 = some 1 := by kernel_rfl
theorem by_120 : byOf Tryz.prog 120 = some 8 := by kernel_rfl
theorem ag_120 : aggOf Tryz.prog 120 = some false := by kernel_rfl
theorem zc_120 : zcOf Tryz.prog 120 = some [.nilFunc] := by kernel_rfl
theorem sz_121 : szOf Tryz.prog 121 = some 2 := by kernel_rfl
theorem by_121 : byOf Tryz.prog 121 = some 16 := by kernel_rfl
theorem ag_121 : aggOf Tryz.prog 121 = some true := by kernel_rfl
theorem zc_121 : zcOf Tryz.prog 121 = some [.int .i64 0, .int .i64 0] := by kernel_rfl
theorem sa_121 : isAggOf Tryz.prog 121 = true := by kernel_rfl
theorem pl_121 : plOf Tryz.prog 121 = some [(0, 1), (1, 1)] := by kernel_rfl
theorem fo_121_0 : foOf Tryz.prog 121 0 = some 0 := by kernel_rfl
theorem fi_121_0 : fiOf Tryz.prog 121 0 = some (0, 1, false) := by kernel_rfl
theorem fo_121_1 : foOf Tryz.prog 121 1 = some 1 := by kernel_rfl
theorem fi_121_1 : fiOf Tryz.prog 121 1 = some (1, 1, false) := by kernel_rfl
theorem sz_122 : szOf Tryz.prog 122 = some 2 := by kernel_rfl
theorem by_122 : byOf Tryz.prog 122 = some 16 := by kernel_rfl
theorem ag_122 : aggOf Tryz.prog 122 = some true := by kernel_rfl
theorem zc_122 : zcOf Tryz.prog 122 = some [.int .i64 0, .int .i64 0] := by kernel_rfl
theorem sa_122 : isAggOf Tryz.prog 122 = true := by kernel_rfl
theorem pl_122 : plOf Tryz.prog 122 = some [(0, 1), (1, 1)] := by kernel_rfl
theorem fo_122_0 : foOf Tryz.prog 122 0 = some 0 := by kernel_rfl
theorem fi_122_0 : fiOf Tryz.prog 122 0 = some (0, 1, false) := by kernel_rfl
theorem fo_122_1 : foOf Tryz.prog 122 1 = some 1 := by kernel_rfl
theorem fi_122_1 : fiOf Tryz.prog 122 1 = some (1, 1, false) := by kernel_rfl
theorem sz_123 : szOf Tryz.prog 123 = some 1 := by kernel_rfl
theorem by_123 : byOf Tryz.prog 123 = some 8 := by kernel_rfl
theorem ag_123 : aggOf Tryz.prog 123 = some false := by kernel_rfl
theorem zc_123 : zcOf Tryz.prog 123 = some [.nilFunc] := by kernel_rfl
theorem sz_124 : szOf Tryz.prog 124 = some 1 := by kernel_rfl
theorem by_124 : byOf Tryz.prog 124 = some 8 := by kernel_rfl
theorem ag_124 : aggOf Tryz.prog 124 = some false := by kernel_rfl
theorem zc_124 : zcOf Tryz.prog 124 = some [.nilFunc] := by kernel_rfl
theorem sz_125 : szOf Tryz.prog 125 = some 1 := by kernel_rfl
theorem by_125 : byOf Tryz.prog 125 = some 8 := by kernel_rfl
theorem ag_125 : aggOf Tryz.prog 125 = some false := by kernel_rfl
theorem zc_125 : zcOf Tryz.prog 125 = some [.pointer none] := by kernel_rfl
theorem sz_126 : szOf Tryz.prog 126 = some 1 := by kernel_rfl
theorem by_126 : byOf Tryz.prog 126 = some 8 := by kernel_rfl
theorem ag_126 : aggOf Tryz.prog 126 = some false := by kernel_rfl
theorem zc_126 : zcOf Tryz.prog 126 = some [.nilFunc] := by kernel_rfl
theorem sz_127 : szOf Tryz.prog 127 = some 1 := by kernel_rfl
theorem by_127 : byOf Tryz.prog 127 = some 8 := by kernel_rfl
theorem ag_127 : aggOf Tryz.prog 127 = some false := by kernel_rfl
theorem zc_127 : zcOf Tryz.prog 127 = some [.nilFunc] := by kernel_rfl
theorem sz_128 : szOf Tryz.prog 128 = some 24 := by kernel_rfl
theorem by_128 : byOf Tryz.prog 128 = some 24 := by kernel_rfl
theorem ag_128 : aggOf Tryz.prog 128 = some true := by kernel_rfl
theorem zc_128 : zcOf Tryz.prog 128 = some [.int .u8 0, .int .u8 0, .int .u8 0, .int .u8 0, .int .u8 0, .int .u8 0, .int .u8 0, .int .u8 0, .int .u8 0, .int .u8 0, .int .u8 0, .int .u8 0, .int .u8 0, .int .u8 0, .int .u8 0, .int .u8 0, .int .u8 0, .int .u8 0, .int .u8 0, .int .u8 0, .int .u8 0, .int .u8 0, .int .u8 0, .int .u8 0] := by kernel_rfl
theorem sa_128 : isAggOf Tryz.prog 128 = true := by kernel_rfl
theorem pl_128 : plOf Tryz.prog 128 = some [(0, 1), (1, 1), (2, 1), (3, 1), (4, 1), (5, 1), (6, 1), (7, 1), (8, 1), (9, 1), (10, 1), (11, 1), (12, 1), (13, 1), (14, 1), (15, 1), (16, 1), (17, 1), (18, 1), (19, 1), (20, 1), (21, 1), (22, 1), (23, 1)] := by kernel_rfl
theorem sz_129 : szOf Tryz.prog 129 = some 1 := by kernel_rfl
theorem by_129 : byOf Tryz.prog 129 = some 8 := by kernel_rfl
theorem ag_129 : aggOf Tryz.prog 129 = some false := by kernel_rfl
theorem zc_129 : zcOf Tryz.prog 129 = some [.int .u64 0] := by kernel_rfl
theorem zv_129 : (Tryz.prog.info? 129).bind (·.zero) = some (.int .u64 0) := by kernel_rfl
theorem sz_130 : szOf Tryz.prog 130 = some 1 := by kernel_rfl
theorem by_130 : byOf Tryz.prog 130 = some 8 := by kernel_rfl
theorem ag_130 : aggOf Tryz.prog 130 = some false := by kernel_rfl
theorem zc_130 : zcOf Tryz.prog 130 = some [.nilFunc] := by kernel_rfl
theorem sz_131 : szOf Tryz.prog 131 = some 1 := by kernel_rfl
theorem by_131 : byOf Tryz.prog 131 = some 8 := by kernel_rfl
theorem ag_131 : aggOf Tryz.prog 131 = some false := by kernel_rfl
theorem zc_131 : zcOf Tryz.prog 131 = some [.nilFunc] := by kernel_rfl
theorem sz_133 : szOf Tryz.prog 133 = some 1 := by kernel_rfl
theorem by_133 : byOf Tryz.prog 133 = some 8 := by kernel_rfl
theorem ag_133 : aggOf Tryz.prog 133 = some false := by kernel_rfl
theorem zc_133 : zcOf Tryz.prog 133 = some [.nilFunc] := by kernel_rfl
theorem sz_134 : szOf Tryz.prog 134 = some 1 := by kernel_rfl
theorem by_134 : byOf Tryz.prog 134 = some 24 := by kernel_rfl
theorem ag_134 : aggOf Tryz.prog 134 = some false := by kernel_rfl
theorem zc_134 : zcOf Tryz.prog 134 = some [.slice none 0 0] := by kernel_rfl
theorem sz_136 : szOf Tryz.prog 136 = some 1 := by kernel_rfl
theorem by_136 : byOf Tryz.prog 136 = some 8 := by kernel_rfl
theorem ag_136 : aggOf Tryz.prog 136 = some false := by kernel_rfl
theorem zc_136 : zcOf Tryz.prog 136 = some [.nilFunc] := by kernel_rfl
theorem sz_137 : szOf Tryz.prog 137 = some 1 := by kernel_rfl
theorem by_137 : byOf Tryz.prog 137 = some 8 := by kernel_rfl
theorem ag_137 : aggOf Tryz.prog 137 = some false := by kernel_rfl
theorem zc_137 : zcOf Tryz.prog 137 = some [.nilFunc] := by kernel_rfl
theorem sz_138 : szOf Tryz.prog 138 = some 1 := by kernel_rfl
theorem by_138 : byOf Tryz.prog 138 = some 8 := by kernel_rfl
theorem ag_138 : aggOf Tryz.prog 138 = some false := by kernel_rfl
theorem zc_138 : zcOf Tryz.prog 138 = some [.nilFunc] := by kernel_rfl
theorem sz_139 : szOf Tryz.prog 139 = some 1 := by kernel_rfl
theorem by_139 : byOf Tryz.prog 139 = some 8 := by kernel_rfl
theorem ag_139 : aggOf Tryz.prog 139 = some false := by kernel_rfl
theorem zc_139 : zcOf Tryz.prog 139 = some [.nilFunc] := by kernel_rfl
theorem sz_140 : szOf Tryz.prog 140 = some 1 := by kernel_rfl
theorem by_140 : byOf Tryz.prog 140 = some 8 := by kernel_rfl
theorem ag_140 : aggOf Tryz.prog 140 = some false := by kernel_rfl
theorem zc_140 : zcOf Tryz.prog 140 = some [.nilFunc] := by kernel_rfl
theorem sz_141 : szOf Tryz.prog 141 = some 1 := by kernel_rfl
theorem by_141 : byOf Tryz.prog 141 = some 8 := by kernel_rfl
theorem ag_141 : aggOf Tryz.prog 141 = some false := by kernel_rfl
theorem zc_141 : zcOf Tryz.prog 141 = some [.int .i64 0] := by kernel_rfl
theorem zv_141 : (Tryz.prog.info? 141).bind (·.zero) = some (.int .i64 0) := by kernel_rfl
theorem sz_143 : szOf Tryz.prog 143 = some 1 := by kernel_rfl
theorem by_143 : byOf Tryz.prog 143 = some 8 := by kernel_rfl
theorem ag_143 : aggOf Tryz.prog 143 = some false := by kernel_rfl
theorem zc_143 : zcOf Tryz.prog 143 = some [.nilFunc] := by kernel_rfl
theorem sz_144 : szOf Tryz.prog 144 = some 1 := by kernel_rfl
theorem by_144 : byOf Tryz.prog 144 = some 8 := by kernel_rfl
theorem ag_144 : aggOf Tryz.prog 144 = some false := by kernel_rfl
theorem zc_144 : zcOf Tryz.prog 144 = some [.pointer none] := by kernel_rfl
theorem sz_145 : szOf Tryz.prog 145 = some 1 := by kernel_rfl
theorem by_145 : byOf Tryz.prog 145 = some 8 := by kernel_rfl
theorem ag_145 : aggOf Tryz.prog 145 = some false := by kernel_rfl
theorem zc_145 : zcOf Tryz.prog 145 = some [.nilFunc] := by kernel_rfl
theorem sz_146 : szOf Tryz.prog 146 = some 1 := by kernel_rfl
theorem by_146 : byOf Tryz.prog 146 = some 8 := by kernel_rfl
theorem ag_146 : aggOf Tryz.prog 146 = some false := by kernel_rfl
theorem zc_146 : zcOf Tryz.prog 146 = some [.nilFunc] := by kernel_rfl
theorem sz_147 : szOf Tryz.prog 147 = some 1 := by kernel_rfl
theorem by_147 : byOf Tryz.prog 147 = some 8 := by kernel_rfl
theorem ag_147 : aggOf Tryz.prog 147 = some false := by kernel_rfl
theorem zc_147 : zcOf Tryz.prog 147 = some [.pointer none] := by kernel_rfl
theorem sz_148 : szOf Tryz.prog 148 = some 1 := by kernel_rfl
theorem by_148 : byOf Tryz.prog 148 = some 8 := by kernel_rfl
theorem ag_148 : aggOf Tryz.prog 148 = some false := by kernel_rfl
theorem zc_148 : zcOf Tryz.prog 148 = some [.nilFunc] := by kernel_rfl
theorem sz_149 : szOf Tryz.prog 149 = some 1 := by kernel_rfl
theorem by_149 : byOf Tryz.prog 149 = some 8 := by kernel_rfl
theorem ag_149 : aggOf Tryz.prog 149 = some false := by kernel_rfl
theorem zc_149 : zcOf Tryz.prog 149 = some [.nilFunc] := by kernel_rfl
theorem sz_150 : szOf Tryz.prog 150 = some 20 := by kernel_rfl
theorem by_150 : byOf Tryz.prog 150 = some 160 := by kernel_rfl
theorem ag_150 : aggOf Tryz.prog 150 = some true := by kernel_rfl
theorem zc_150 : zcOf Tryz.prog 150 = some [.int .u64 0, .int .u64 0, .int .u64 0, .int .u64 0, .int .u64 0, .int .u64 0, .int .u64 0, .int .u64 0, .int .u64 0, .int .u64 0, .int .u64 0, .int .u64 0, .int .u64 0, .int .u64 0, .int .u64 0, .int .u64 0, .int .u64 0, .int .u64 0, .int .u64 0, .int .u64 0] := by kernel_rfl
theorem sa_150 : isAggOf Tryz.prog 150 = true := by kernel_rfl
theorem pl_150 : plOf Tryz.prog 150 = some [(0, 1), (1, 1), (2, 1), (3, 1), (4, 1), (5, 1), (6, 1), (7, 1), (8, 1), (9, 1), (10, 1), (11, 1), (12, 1), (13, 1), (14, 1), (15, 1), (16, 1), (17, 1), (18, 1), (19, 1)] := by kernel_rfl
theorem sz_151 : szOf Tryz.prog 151 = some 65 := by kernel_rfl
theorem by_151 : byOf Tryz.prog 151 = some 65 := by kernel_rfl
theorem ag_151 : aggOf Tryz.prog 151 = some true := by kernel_rfl
theorem sz_152 : szOf Tryz.prog 152 = some 1 := by kernel_rfl
theorem by_152 : byOf Tryz.prog 152 = some 8 := by kernel_rfl
theorem ag_152 : aggOf Tryz.prog 152 = some false := by kernel_rfl
theorem zc_152 : zcOf Tryz.prog 152 = some [.nilFunc] := by kernel_rfl
theorem sz_153 : szOf Tryz.prog 153 = some 1 := by kernel_rfl
theorem by_153 : byOf Tryz.prog 153 = some 8 := by kernel_rfl
theorem ag_153 : aggOf Tryz.prog 153 = some false := by kernel_rfl
theorem zc_153 : zcOf Tryz.prog 153 = some [.nilFunc] := by kernel_rfl
theorem sz_154 : szOf Tryz.prog 154 = some 1 := by kernel_rfl
theorem by_154 : byOf Tryz.prog 154 = some 8 := by kernel_rfl
theorem ag_154 : aggOf Tryz.prog 154 = some false := by kernel_rfl
theorem zc_154 : zcOf Tryz.prog 154 = some [.nilFunc] := by kernel_rfl
theorem sz_156 : szOf Tryz.prog 156 = some 1 := by kernel_rfl
theorem by_156 : byOf Tryz.prog 156 = some 8 := by kernel_rfl
theorem ag_156 : aggOf Tryz.prog 156 = some false := by kernel_rfl
theorem zc_156 : zcOf Tryz.prog 156 = some [.nilFunc] := by kernel_rfl
theorem sz_158 : szOf Tryz.prog 158 = some 1 := by kernel_rfl
theorem by_158 : byOf Tryz.prog 158 = some 8 := by kernel_rfl
theorem ag_158 : aggOf Tryz.prog 158 = some false := by kernel_rfl
theorem zc_158 : zcOf Tryz.prog 158 = some [.nilFunc] := by kernel_rfl
theorem sz_159 : szOf Tryz.prog 159 = some 1 := by kernel_rfl
theorem by_159 : byOf Tryz.prog 159 = some 8 := by kernel_rfl
theorem ag_159 : aggOf Tryz.prog 159 = some false := by kernel_rfl
theorem zc_159 : zcOf Tryz.prog 159 = some [.nilFunc] := by kernel_rfl
theorem sz_160 : szOf Tryz.prog 160 = some 3 := by kernel_rfl
theorem by_160 : byOf Tryz.prog 160 = some 48 := by kernel_rfl
theorem ag_160 : aggOf Tryz.prog 160 = some true := by kernel_rfl
theorem zc_160 : zcOf Tryz.prog 160 = some [.string .empty, .string .empty, .nilIface] := by kernel_rfl
theorem sa_160 : isAggOf Tryz.prog 160 = true := by kernel_rfl
theorem pl_160 : plOf Tryz.prog 160 = some [(0, 1), (1, 1), (2, 1)] := by kernel_rfl
theorem fo_160_0 : foOf Tryz.prog 160 0 = some 0 := by kernel_rfl
theorem fi_160_0 : fiOf Tryz.prog 160 0 = some (0, 1, false) := by kernel_rfl
theorem fo_160_1 : foOf Tryz.prog 160 1 = some 1 := by kernel_rfl
theorem fi_160_1 : fiOf Tryz.prog 160 1 = some (1, 1, false) := by kernel_rfl
theorem fo_160_2 : foOf Tryz.prog 160 2 = some 2 := by kernel_rfl
theorem fi_160_2 : fiOf Tryz.prog 160 2 = some (2, 1, false) := by kernel_rfl
theorem sz_161 : szOf Tryz.prog 161 = some 3 := by kernel_rfl
theorem by_161 : byOf Tryz.prog 161 = some 48 := by kernel_rfl
theorem ag_161 : aggOf Tryz.prog 161 = some true := by kernel_rfl
theorem zc_161 : zcOf Tryz.prog 161 = some [.string .empty, .string .empty, .nilIface] := by kernel_rfl
theorem sa_161 : isAggOf Tryz.prog 161 = true := by kernel_rfl
theorem pl_161 : plOf Tryz.prog 161 = some [(0, 1), (1, 1), (2, 1)] := by kernel_rfl
theorem fo_161_0 : foOf Tryz.prog 161 0 = some 0 := by kernel_rfl
theorem fi_161_0 : fiOf Tryz.prog 161 0 = some (0, 1, false) := by kernel_rfl
theorem fo_161_1 : foOf Tryz.prog 161 1 = some 1 := by kernel_rfl
theorem fi_161_1 : fiOf Tryz.prog 161 1 = some (1, 1, false) := by kernel_rfl
theorem fo_161_2 : foOf Tryz.prog 161 2 = some 2 := by kernel_rfl
theorem fi_161_2 : fiOf Tryz.prog 161 2 = some (2, 1, false) := by kernel_rfl
theorem sz_162 : szOf Tryz.prog 162 = some 1 := by kernel_rfl
theorem by_162 : byOf Tryz.prog 162 = some 8 := by kernel_rfl
theorem ag_162 : aggOf Tryz.prog 162 = some false := by kernel_rfl
theorem zc_162 : zcOf Tryz.prog 162 = some [.nilFunc] := by kernel_rfl
theorem sz_163 : szOf Tryz.prog 163 = some 1 := by kernel_rfl
theorem by_163 : byOf Tryz.prog 163 = some 8 := by kernel_rfl
theorem ag_163 : aggOf Tryz.prog 163 = some false := by kernel_rfl
theorem zc_163 : zcOf Tryz.prog 163 = some [.nilFunc] := by kernel_rfl
theorem sz_164 : szOf Tryz.prog 164 = some 256 := by kernel_rfl
theorem by_164 : byOf Tryz.prog 164 = some 256 := by kernel_rfl
theorem ag_164 : aggOf Tryz.prog 164 = some true := by kernel_rfl
theorem sz_165 : szOf Tryz.prog 165 = some 256 := by kernel_rfl
theorem by_165 : byOf Tryz.prog 165 = some 256 := by kernel_rfl
theorem ag_165 : aggOf Tryz.prog 165 = some true := by kernel_rfl
theorem sz_167 : szOf Tryz.prog 167 = some 1 := by kernel_rfl
theorem by_167 : byOf Tryz.prog 167 = some 8 := by kernel_rfl
theorem ag_167 : aggOf Tryz.prog 167 = some false := by kernel_rfl
theorem zc_167 : zcOf Tryz.prog 167 = some [.nilFunc] := by kernel_rfl
theorem sz_168 : szOf Tryz.prog 168 = some 1 := by kernel_rfl
theorem by_168 : byOf Tryz.prog 168 = some 8 := by kernel_rfl
theorem ag_168 : aggOf Tryz.prog 168 = some false := by kernel_rfl
theorem zc_168 : zcOf Tryz.prog 168 = some [.nilFunc] := by kernel_rfl
theorem sz_169 : szOf Tryz.prog 169 = some 1 := by kernel_rfl
theorem by_169 : byOf Tryz.prog 169 = some 8 := by kernel_rfl
theorem ag_169 : aggOf Tryz.prog 169 = some false := by kernel_rfl
theorem zc_169 : zcOf Tryz.prog 169 = some [.pointer none] := by kernel_rfl
theorem sz_170 : szOf Tryz.prog 170 = some 1 := by kernel_rfl
theorem by_170 : byOf Tryz.prog 170 = some 8 := by kernel_rfl
theorem ag_170 : aggOf Tryz.prog 170 = some false := by kernel_rfl
theorem zc_170 : zcOf Tryz.prog 170 = some [.nilFunc] := by kernel_rfl
theorem sz_171 : szOf Tryz.prog 171 = some 1 := by kernel_rfl
theorem by_171 : byOf Tryz.prog 171 = some 8 := by kernel_rfl
theorem ag_171 : aggOf Tryz.prog 171 = some false := by kernel_rfl
theorem zc_171 : zcOf Tryz.prog 171 = some [.nilFunc] := by kernel_rfl
theorem sz_172 : szOf Tryz.prog 172 = some 1 := by kernel_rfl
theorem by_172 : byOf Tryz.prog 172 = some 8 := by kernel_rfl
theorem ag_172 : aggOf Tryz.prog 172 = some false := by kernel_rfl
theorem zc_172 : zcOf Tryz.prog 172 = some [.pointer none] := by kernel_rfl
theorem sz_173 : szOf Tryz.prog 173 = some 1 := by kernel_rfl
theorem by_173 : byOf Tryz.prog 173 = some 16 := by kernel_rfl
theorem ag_173 : aggOf Tryz.prog 173 = some true := by kernel_rfl
theorem zc_173 : zcOf Tryz.prog 173 = some [.string .empty] := by kernel_rfl
theorem sa_173 : isAggOf Tryz.prog 173 = true := by kernel_rfl
theorem pl_173 : plOf Tryz.prog 173 = some [(0, 1)] := by kernel_rfl
theorem fo_173_0 : foOf Tryz.prog 173 0 = some 0 := by kernel_rfl
theorem fi_173_0 : fiOf Tryz.prog 173 0 = some (0, 1, false) := by kernel_rfl
theorem sz_174 : szOf Tryz.prog 174 = some 1 := by kernel_rfl
theorem by_174 : byOf Tryz.prog 174 = some 16 := by kernel_rfl
theorem ag_174 : aggOf Tryz.prog 174 = some true := by kernel_rfl
theorem zc_174 : zcOf Tryz.prog 174 = some [.string .empty] := by kernel_rfl
theorem sa_174 : isAggOf Tryz.prog 174 = true := by kernel_rfl
theorem pl_174 : plOf Tryz.prog 174 = some [(0, 1)] := by kernel_rfl
theorem fo_174_0 : foOf Tryz.prog 174 0 = some 0 := by kernel_rfl
theorem fi_174_0 : fiOf Tryz.prog 174 0 = some (0, 1, false) := by kernel_rfl
theorem sz_175 : szOf Tryz.prog 175 = some 1 := by kernel_rfl
theorem by_175 : byOf Tryz.prog 175 = some 8 := by kernel_rfl
theorem ag_175 : aggOf Tryz.prog 175 = some false := by kernel_rfl
theorem zc_175 : zcOf Tryz.prog 175 = some [.nilFunc] := by kernel_rfl
theorem sz_176 : szOf Tryz.prog 176 = some 1 := by kernel_rfl
theorem by_176 : byOf Tryz.prog 176 = some 8 := by kernel_rfl
theorem ag_176 : aggOf Tryz.prog 176 = some false := by kernel_rfl
theorem zc_176 : zcOf Tryz.prog 176 = some [.nilFunc] := by kernel_rfl
theorem sz_177 : szOf Tryz.prog 177 = some 32 := by kernel_rfl
theorem by_177 : byOf Tryz.prog 177 = some 32 := by kernel_rfl
theorem ag_177 : aggOf Tryz.prog 177 = some true := by kernel_rfl
theorem zc_177 : zcOf Tryz.prog 177 = some [.int .u8 0, .int .u8 0, .int .u8 0, .int .u8 0, .int .u8 0, .int .u8 0, .int .u8 0, .int .u8 0, .int .u8 0, .int .u8 0, .int .u8 0, .int .u8 0, .int .u8 0, .int .u8 0, .int .u8 0, .int .u8 0, .int .u8 0, .int .u8 0, .int .u8 0, .int .u8 0, .int .u8 0, .int .u8 0, .int .u8 0, .int .u8 0, .int .u8 0, .int .u8 0, .int .u8 0, .int .u8 0, .int .u8 0, .int .u8 0, .int .u8 0, .int .u8 0] := by kernel_rfl
theorem sa_177 : isAggOf Tryz.prog 177 = true := by kernel_rfl
theorem pl_177 : plOf Tryz.prog 177 = some [(0, 1), (1, 1), (2, 1), (3, 1), (4, 1), (5, 1), (6, 1), (7, 1), (8, 1), (9, 1), (10, 1), (11, 1), (12, 1), (13, 1), (14, 1), (15, 1), (16, 1), (17, 1), (18, 1), (19, 1), (20, 1), (21, 1), (22, 1), (23, 1), (24, 1), (25, 1), (26, 1), (27, 1), (28, 1), (29, 1), (30, 1), (31, 1)] := by kernel_rfl
theorem sz_178 : szOf Tryz.prog 178 = some 64 := by kernel_rfl
theorem by_178 : byOf Tryz.prog 178 = some 64 := by kernel_rfl
theorem ag_178 : aggOf Tryz.prog 178 = some true := by kernel_rfl
theorem zc_178 : zcOf Tryz.prog 178 = some [.int .u8 0, .int .u8 0, .int .u8 0, .int .u8 0, .int .u8 0, .int .u8 0, .int .u8 0, .int .u8 0, .int .u8 0, .int .u8 0, .int .u8 0, .int .u8 0, .int .u8 0, .int .u8 0, .int .u8 0, .int .u8 0, .int .u8 0, .int .u8 0, .int .u8 0, .int .u8 0, .int .u8 0, .int .u8 0, .int .u8 0, .int .u8 0, .int .u8 0, .int .u8 0, .int .u8 0, .int .u8 0, .int .u8 0, .int .u8 0, .int .u8 0, .int .u8 0, .int .u8 0, .int .u8 0, .int .u8 0, .int .u8 0, .int .u8 0, .int .u8 0, .int .u8 0, .int .u8 0, .int .u8 0, .int .u8 0, .int .u8 0, .int .u8 0, .int .u8 0, .int .u8 0, .int .u8 0, .int .u8 0, .int .u8 0, .int .u8 0, .int .u8 0, .int .u8 0, .int .u8 0, .int .u8 0, .int .u8 0, .int .u8 0, .int .u8 0, .int .u8 0, .int .u8 0, .int .u8 0, .int .u8 0, .int .u8 0, .int .u8 0, .int .u8 0] := by kernel_rfl
theorem sa_178 : isAggOf Tryz.prog 178 = true := by kernel_rfl
theorem pl_178 : plOf Tryz.prog 178 = some [(0, 1), (1, 1), (2, 1), (3, 1), (4, 1), (5, 1), (6, 1), (7, 1), (8, 1), (9, 1), (10, 1), (11, 1), (12, 1), (13, 1), (14, 1), (15, 1), (16, 1), (17, 1), (18, 1), (19, 1), (20, 1), (21, 1), (22, 1), (23, 1), (24, 1), (25, 1), (26, 1), (27, 1), (28, 1), (29, 1), (30, 1), (31, 1), (32, 1), (33, 1), (34, 1), (35, 1), (36, 1), (37, 1), (38, 1), (39, 1), (40, 1), (41, 1), (42, 1), (43, 1), (44, 1), (45, 1), (46, 1), (47, 1), (48, 1), (49, 1), (50, 1), (51, 1), (52, 1), (53, 1), (54, 1), (55, 1), (56, 1), (57, 1), (58, 1), (59, 1), (60, 1), (61, 1), (62, 1), (63, 1)] := by kernel_rfl
theorem sz_179 : szOf Tryz.prog 179 = some 256 := by kernel_rfl
theorem by_179 : byOf Tryz.prog 179 = some 256 := by kernel_rfl
theorem ag_179 : aggOf Tryz.prog 179 = some true := by kernel_rfl
theorem sz_180 : szOf Tryz.prog 180 = some 2 := by kernel_rfl
theorem by_180 : byOf Tryz.prog 180 = some 2 := by kernel_rfl
theorem ag_180 : aggOf Tryz.prog 180 = some true := by kernel_rfl
theorem zc_180 : zcOf Tryz.prog 180 = some [.int .u8 0, .int .u8 0] := by kernel_rfl
theorem sa_180 : isAggOf Tryz.prog 180 = true := by kernel_rfl
theorem pl_180 : plOf Tryz.prog 180 = some [(0, 1), (1, 1)] := by kernel_rfl
theorem fo_180_0 : foOf Tryz.prog 180 0 = some 0 := by kernel_rfl
theorem fi_180_0 : fiOf Tryz.prog 180 0 = some (0, 1, false) := by kernel_rfl
theorem fo_180_1 : foOf Tryz.prog 180 1 = some 1 := by kernel_rfl
theorem fi_180_1 : fiOf Tryz.prog 180 1 = some (1, 1, false) := by kernel_rfl
theorem sz_181 : szOf Tryz.prog 181 = some 2 := by kernel_rfl
theorem by_181 : byOf Tryz.prog 181 = some 2 := by kernel_rfl
theorem ag_181 : aggOf Tryz.prog 181 = some true := by kernel_rfl
theorem zc_181 : zcOf Tryz.prog 181 = some [.int .u8 0, .int .u8 0] := by kernel_rfl
theorem sa_181 : isAggOf Tryz.prog 181 = true := by kernel_rfl
theorem pl_181 : plOf Tryz.prog 181 = some [(0, 1), (1, 1)] := by kernel_rfl
theorem fo_181_0 : foOf Tryz.prog 181 0 = some 0 := by kernel_rfl
theorem fi_181_0 : fiOf Tryz.prog 181 0 = some (0, 1, false) := by kernel_rfl
theorem fo_181_1 : foOf Tryz.prog 181 1 = some 1 := by kernel_rfl
theorem fi_181_1 : fiOf Tryz.prog 181 1 = some (1, 1, false) := by kernel_rfl
theorem sz_182 : szOf Tryz.prog 182 = some 32 := by kernel_rfl
theorem by_182 : byOf Tryz.prog 182 = some 32 := by kernel_rfl
theorem ag_182 : aggOf Tryz.prog 182 = some true := by kernel_rfl
theorem zc_182 : zcOf Tryz.prog 182 = some [.int .u8 0, .int .u8 0, .int .u8 0, .int .u8 0, .int .u8 0, .int .u8 0, .int .u8 0, .int .u8 0, .int .u8 0, .int .u8 0, .int .u8 0, .int .u8 0, .int .u8 0, .int .u8 0, .int .u8 0, .int .u8 0, .int .u8 0, .int .u8 0, .int .u8 0, .int .u8 0, .int .u8 0, .int .u8 0, .int .u8 0, .int .u8 0, .int .u8 0, .int .u8 0, .int .u8 0, .int .u8 0, .int .u8 0, .int .u8 0, .int .u8 0, .int .u8 0] := by kernel_rfl
theorem sa_182 : isAggOf Tryz.prog 182 = true := by kernel_rfl
theorem pl_182 : plOf Tryz.prog 182 = some [(0, 2), (2, 2), (4, 2), (6, 2), (8, 2), (10, 2), (12, 2), (14, 2), (16, 2), (18, 2), (20, 2), (22, 2), (24, 2), (26, 2), (28, 2), (30, 2)] := by kernel_rfl
theorem sz_184 : szOf Tryz.prog 184 = some 1 := by kernel_rfl
theorem by_184 : byOf Tryz.prog 184 = some 8 := by kernel_rfl
theorem ag_184 : aggOf Tryz.prog 184 = some false := by kernel_rfl
theorem zc_184 : zcOf Tryz.prog 184 = some [.nilFunc] := by kernel_rfl
theorem sz_185 : szOf Tryz.prog 185 = some 1 := by kernel_rfl
theorem by_185 : byOf Tryz.prog 185 = some 8 := by kernel_rfl
theorem ag_185 : aggOf Tryz.prog 185 = some false := by kernel_rfl
theorem zc_185 : zcOf Tryz.prog 185 = some [.nilFunc] := by kernel_rfl
theorem sz_186 : szOf Tryz.prog 186 = some 1 := by kernel_rfl
theorem by_186 : byOf Tryz.prog 186 = some 8 := by kernel_rfl
theorem ag_186 : aggOf Tryz.prog 186 = some false := by kernel_rfl
theorem zc_186 : zcOf Tryz.prog 186 = some [.nilFunc] := by kernel_rfl
theorem sz_187 : szOf Tryz.prog 187 = some 4 := by kernel_rfl
theorem by_187 : byOf Tryz.prog 187 = some 40 := by kernel_rfl
theorem ag_187 : aggOf Tryz.prog 187 = some true := by kernel_rfl
theorem zc_187 : zcOf Tryz.prog 187 = some [.pointer none, .pointer none, .pointer none, .string .empty] := by kernel_rfl
theorem sa_187 : isAggOf Tryz.prog 187 = true := by kernel_rfl
theorem pl_187 : plOf Tryz.prog 187 = some [(0, 1), (1, 1), (2, 1), (3, 1)] := by kernel_rfl
theorem fo_187_0 : foOf Tryz.prog 187 0 = some 0 := by kernel_rfl
theorem fi_187_0 : fiOf Tryz.prog 187 0 = some (0, 1, false) := by kernel_rfl
theorem fo_187_1 : foOf Tryz.prog 187 1 = some 1 := by kernel_rfl
theorem fi_187_1 : fiOf Tryz.prog 187 1 = some (1, 1, false) := by kernel_rfl
theorem fo_187_2 : foOf Tryz.prog 187 2 = some 2 := by kernel_rfl
theorem fi_187_2 : fiOf Tryz.prog 187 2 = some (2, 1, false) := by kernel_rfl
theorem fo_187_3 : foOf Tryz.prog 187 3 = some 3 := by kernel_rfl
theorem fi_187_3 : fiOf Tryz.prog 187 3 = some (3, 1, false) := by kernel_rfl
theorem sz_188 : szOf Tryz.prog 188 = some 4 := by kernel_rfl
theorem by_188 : byOf Tryz.prog 188 = some 40 := by kernel_rfl
theorem ag_188 : aggOf Tryz.prog 188 = some true := by kernel_rfl
theorem zc_188 : zcOf Tryz.prog 188 = some [.pointer none, .pointer none, .pointer none, .string .empty] := by kernel_rfl
theorem sa_188 : isAggOf Tryz.prog 188 = true := by kernel_rfl
theorem pl_188 : plOf Tryz.prog 188 = some [(0, 1), (1, 1), (2, 1), (3, 1)] := by kernel_rfl
theorem fo_188_0 : foOf Tryz.prog 188 0 = some 0 := by kernel_rfl
theorem fi_188_0 : fiOf Tryz.prog 188 0 = some (0, 1, false) := by kernel_rfl
theorem fo_188_1 : foOf Tryz.prog 188 1 = some 1 := by kernel_rfl
theorem fi_188_1 : fiOf Tryz.prog 188 1 = some (1, 1, false) := by kernel_rfl
theorem fo_188_2 : foOf Tryz.prog 188 2 = some 2 := by kernel_rfl
theorem fi_188_2 : fiOf Tryz.prog 188 2 = some (2, 1, false) := by kernel_rfl
theorem fo_188_3 : foOf Tryz.prog 188 3 = some 3 := by kernel_rfl
theorem fi_188_3 : fiOf Tryz.prog 188 3 = some (3, 1, false) := by kernel_rfl
theorem sz_189 : szOf Tryz.prog 189 = some 0 := by kernel_rfl
theorem by_189 : byOf Tryz.prog 189 = some 0 := by kernel_rfl
theorem ag_189 : aggOf Tryz.prog 189 = some true := by kernel_rfl
theorem zc_189 : zcOf Tryz.prog 189 = some [] := by kernel_rfl
theorem sa_189 : isAggOf Tryz.prog 189 = true := by kernel_rfl
theorem pl_189 : plOf Tryz.prog 189 = some [] := by kernel_rfl
theorem sz_190 : szOf Tryz.prog 190 = some 0 := by kernel_rfl
theorem by_190 : byOf Tryz.prog 190 = some 0 := by kernel_rfl
theorem ag_190 : aggOf Tryz.prog 190 = some true := by kernel_rfl
theorem zc_190 : zcOf Tryz.prog 190 = some [] := by kernel_rfl
theorem sa_190 : isAggOf Tryz.prog 190 = true := by kernel_rfl
theorem pl_190 : plOf Tryz.prog 190 = some [(0, 0)] := by kernel_rfl
theorem fi_190_0 : fiOf Tryz.prog 190 0 = some (0, 0, true) := by kernel_rfl
theorem sz_191 : szOf Tryz.prog 191 = some 0 := by kernel_rfl
theorem by_191 : byOf Tryz.prog 191 = some 0 := by kernel_rfl
theorem ag_191 : aggOf Tryz.prog 191 = some true := by kernel_rfl
theorem zc_191 : zcOf Tryz.prog 191 = some [] := by kernel_rfl
theorem sa_191 : isAggOf Tryz.prog 191 = true := by kernel_rfl
theorem pl_191 : plOf Tryz.prog 191 = some [(0, 0)] := by kernel_rfl
theorem fi_191_0 : fiOf Tryz.prog 191 0 = some (0, 0, true) := by kernel_rfl
theorem sz_192 : szOf Tryz.prog 192 = some 1 := by kernel_rfl
theorem by_192 : byOf Tryz.prog 192 = some 8 := by kernel_rfl
theorem ag_192 : aggOf Tryz.prog 192 = some false := by kernel_rfl
theorem zc_192 : zcOf Tryz.prog 192 = some [.nilFunc] := by kernel_rfl
theorem sz_193 : szOf Tryz.prog 193 = some 1 := by kernel_rfl
theorem by_193 : byOf Tryz.prog 193 = some 1 := by kernel_rfl
theorem ag_193 : aggOf Tryz.prog 193 = some false := by kernel_rfl
theorem zc_193 : zcOf Tryz.prog 193 = some [.int .u8 0] := by kernel_rfl
theorem zv_193 : (Tryz.prog.info? 193).bind (·.zero) = some (.int .u8 0) := by kernel_rfl
theorem sz_194 : szOf Tryz.prog 194 = some 1 := by kernel_rfl
theorem by_194 : byOf Tryz.prog 194 = some 1 := by kernel_rfl
theorem ag_194 : aggOf Tryz.prog 194 = some false := by kernel_rfl
theorem zc_194 : zcOf Tryz.prog 194 = some [.int .u8 0] := by kernel_rfl
theorem zv_194 : (Tryz.prog.info? 194).bind (·.zero) = some (.int .u8 0) := by kernel_rfl
theorem sz_195 : szOf Tryz.prog 195 = some 1 := by kernel_rfl
theorem by_195 : byOf Tryz.prog 195 = some 8 := by kernel_rfl
theorem ag_195 : aggOf Tryz.prog 195 = some false := by kernel_rfl
theorem zc_195 : zcOf Tryz.prog 195 = some [.nilFunc] := by kernel_rfl
theorem sz_196 : szOf Tryz.prog 196 = some 1 := by kernel_rfl
theorem by_196 : byOf Tryz.prog 196 = some 4 := by kernel_rfl
theorem ag_196 : aggOf Tryz.prog 196 = some false := by kernel_rfl
theorem zc_196 : zcOf Tryz.prog 196 = some [.int .i32 0] := by kernel_rfl
theorem zv_196 : (Tryz.prog.info? 196).bind (·.zero) = some (.int .i32 0) := by kernel_rfl
theorem sz_197 : szOf Tryz.prog 197 = some 1 := by kernel_rfl
theorem by_197 : byOf Tryz.prog 197 = some 4 := by kernel_rfl
theorem ag_197 : aggOf Tryz.prog 197 = some false := by kernel_rfl
theorem zc_197 : zcOf Tryz.prog 197 = some [.int .i32 0] := by kernel_rfl
theorem zv_197 : (Tryz.prog.info? 197).bind (·.zero) = some (.int .i32 0) := by kernel_rfl
theorem sz_198 : szOf Tryz.prog 198 = some 11 := by kernel_rfl
theorem by_198 : byOf Tryz.prog 198 = some 48 := by kernel_rfl
theorem ag_198 : aggOf Tryz.prog 198 = some true := by kernel_rfl
theorem zc_198 : zcOf Tryz.prog 198 = some [.int .u64 0, .int .u64 0, .int .u32 0, .int .u8 0, .int .u8 0, .int .u8 0, .int .u8 0, .nilFunc, .pointer none, .int .i32 0, .int .i32 0] := by kernel_rfl
theorem sa_198 : isAggOf Tryz.prog 198 = true := by kernel_rfl
theorem pl_198 : plOf Tryz.prog 198 = some [(0, 1), (1, 1), (2, 1), (3, 1), (4, 1), (5, 1), (6, 1), (7, 1), (8, 1), (9, 1), (10, 1)] := by kernel_rfl
theorem fo_198_0 : foOf Tryz.prog 198 0 = some 0 := by kernel_rfl
theorem fi_198_0 : fiOf Tryz.prog 198 0 = some (0, 1, false) := by kernel_rfl
theorem fo_198_1 : foOf Tryz.prog 198 1 = some 1 := by kernel_rfl
theorem fi_198_1 : fiOf Tryz.prog 198 1 = some (1, 1, false) := by kernel_rfl
theorem fo_198_2 : foOf Tryz.prog 198 2 = some 2 := by kernel_rfl
theorem fi_198_2 : fiOf Tryz.prog 198 2 = some (2, 1, false) := by kernel_rfl
theorem fo_198_3 : foOf Tryz.prog 198 3 = some 3 := by kernel_rfl
theorem fi_198_3 : fiOf Tryz.prog 198 3 = some (3, 1, false) := by kernel_rfl
theorem fo_198_4 : foOf Tryz.prog 198 4 = some 4 := by kernel_rfl
theorem fi_198_4 : fiOf Tryz.prog 198 4 = some (4, 1, false) := by kernel_rfl
theorem fo_198_5 : foOf Tryz.prog 198 5 = some 5 := by kernel_rfl
theorem fi_198_5 : fiOf Tryz.prog 198 5 = some (5, 1, false) := by kernel_rfl
theorem fo_198_6 : foOf Tryz.prog 198 6 = some 6 := by kernel_rfl
theorem fi_198_6 : fiOf Tryz.prog 198 6 = some (6, 1, false) := by kernel_rfl
theorem fo_198_7 : foOf Tryz.prog 198 7 = some 7 := by kernel_rfl
theorem fi_198_7 : fiOf Tryz.prog 198 7 = some (7, 1, false) := by kernel_rfl
theorem fo_198_8 : foOf Tryz.prog 198 8 = some 8 := by kernel_rfl
theorem fi_198_8 : fiOf Tryz.prog 198 8 = some (8, 1, false) := by kernel_rfl
theorem fo_198_9 : foOf Tryz.prog 198 9 = some 9 := by kernel_rfl
theorem fi_198_9 : fiOf Tryz.prog 198 9 = some (9, 1, false) := by kernel_rfl
theorem fo_198_10 : foOf Tryz.prog 198 10 = some 10 := by kernel_rfl
theorem fi_198_10 : fiOf Tryz.prog 198 10 = some (10, 1, false) := by kernel_rfl
theorem sz_199 : szOf Tryz.prog 199 = some 11 := by kernel_rfl
theorem by_199 : byOf Tryz.prog 199 = some 48 := by kernel_rfl
theorem ag_199 : aggOf Tryz.prog 199 = some true := by kernel_rfl
theorem zc_199 : zcOf Tryz.prog 199 = some [.int .u64 0, .int .u64 0, .int .u32 0, .int .u8 0, .int .u8 0, .int .u8 0, .int .u8 0, .nilFunc, .pointer none, .int .i32 0, .int .i32 0] := by kernel_rfl
theorem sa_199 : isAggOf Tryz.prog 199 = true := by kernel_rfl
theorem pl_199 : plOf Tryz.prog 199 = some [(0, 1), (1, 1), (2, 1), (3, 1), (4, 1), (5, 1), (6, 1), (7, 1), (8, 1), (9, 1), (10, 1)] := by kernel_rfl
theorem fo_199_0 : foOf Tryz.prog 199 0 = some 0 := by kernel_rfl
theorem fi_199_0 : fiOf Tryz.prog 199 0 = some (0, 1, false) := by kernel_rfl
theorem fo_199_1 : foOf Tryz.prog 199 1 = some 1 := by kernel_rfl
theorem fi_199_1 : fiOf Tryz.prog 199 1 = some (1, 1, false) := by kernel_rfl
theorem fo_199_2 : foOf Tryz.prog 199 2 = some 2 := by kernel_rfl
theorem fi_199_2 : fiOf Tryz.prog 199 2 = some (2, 1, false) := by kernel_rfl
theorem fo_199_3 : foOf Tryz.prog 199 3 = some 3 := by kernel_rfl
theorem fi_199_3 : fiOf Tryz.prog 199 3 = some (3, 1, false) := by kernel_rfl
theorem fo_199_4 : foOf Tryz.prog 199 4 = some 4 := by kernel_rfl
theorem fi_199_4 : fiOf Tryz.prog 199 4 = some (4, 1, false) := by kernel_rfl
theorem fo_199_5 : foOf Tryz.prog 199 5 = some 5 := by kernel_rfl
theorem fi_199_5 : fiOf Tryz.prog 199 5 = some (5, 1, false) := by kernel_rfl
theorem fo_199_6 : foOf Tryz.prog 199 6 = some 6 := by kernel_rfl
theorem fi_199_6 : fiOf Tryz.prog 199 6 = some (6, 1, false) := by kernel_rfl
theorem fo_199_7 : foOf Tryz.prog 199 7 = some 7 := by kernel_rfl
theorem fi_199_7 : fiOf Tryz.prog 199 7 = some (7, 1, false) := by kernel_rfl
theorem fo_199_8 : foOf Tryz.prog 199 8 = some 8 := by kernel_rfl
theorem fi_199_8 : fiOf Tryz.prog 199 8 = some (8, 1, false) := by kernel_rfl
theorem fo_199_9 : foOf Tryz.prog 199 9 = some 9 := by kernel_rfl
theorem fi_199_9 : fiOf Tryz.prog 199 9 = some (9, 1, false) := by kernel_rfl
theorem fo_199_10 : foOf Tryz.prog 199 10 = some 10 := by kernel_rfl
theorem fi_199_10 : fiOf Tryz.prog 199 10 = some (10, 1, false) := by kernel_rfl
theorem sz_200 : szOf Tryz.prog 200 = some 1 := by kernel_rfl
theorem by_200 : byOf Tryz.prog 200 = some 8 := by kernel_rfl
theorem ag_200 : aggOf Tryz.prog 200 = some false := by kernel_rfl
theorem zc_200 : zcOf Tryz.prog 200 = some [.nilFunc] := by kernel_rfl
theorem sz_201 : szOf Tryz.prog 201 = some 1 := by kernel_rfl
theorem by_201 : byOf Tryz.prog 201 = some 8 := by kernel_rfl
theorem ag_201 : aggOf Tryz.prog 201 = some false := by kernel_rfl
theorem zc_201 : zcOf Tryz.prog 201 = some [.nilFunc] := by kernel_rfl
theorem sz_202 : szOf Tryz.prog 202 = some 1 := by kernel_rfl
theorem by_202 : byOf Tryz.prog 202 = some 8 := by kernel_rfl
theorem ag_202 : aggOf Tryz.prog 202 = some false := by kernel_rfl
theorem zc_202 : zcOf Tryz.prog 202 = some [.nilFunc] := by kernel_rfl
theorem sz_203 : szOf Tryz.prog 203 = some 1 := by kernel_rfl
theorem by_203 : byOf Tryz.prog 203 = some 8 := by kernel_rfl
theorem ag_203 : aggOf Tryz.prog 203 = some false := by kernel_rfl
theorem zc_203 : zcOf Tryz.prog 203 = some [.nilFunc] := by kernel_rfl
theorem rn_2 : runs Tryz.prog 2 = true := by kernel_rfl
theorem rn_3 : runs Tryz.prog 3 = true := by kernel_rfl
theorem rn_4 : runs Tryz.prog 4 = true := by kernel_rfl
theorem rn_5 : runs Tryz.prog 5 = true := by kernel_rfl
theorem rn_6 : runs Tryz.prog 6 = true := by kernel_rfl
theorem rn_7 : runs Tryz.prog 7 = true := by kernel_rfl
theorem rn_8 : runs Tryz.prog 8 = true := by kernel_rfl
theorem rn_9 : runs Tryz.prog 9 = true := by kernel_rfl
theorem rn_10 : runs Tryz.prog 10 = true := by kernel_rfl
theorem rn_11 : runs Tryz.prog 11 = true := by kernel_rfl
theorem rn_12 : runs Tryz.prog 12 = true := by kernel_rfl
theorem rn_13 : runs Tryz.prog 13 = true := by kernel_rfl
theorem rn_14 : runs Tryz.prog 14 = true := by kernel_rfl
theorem rn_15 : runs Tryz.prog 15 = true := by kernel_rfl
theorem rn_16 : runs Tryz.prog 16 = true := by kernel_rfl
theorem rn_17 : runs Tryz.prog 17 = true := by kernel_rfl
theorem rn_18 : runs Tryz.prog 18 = true := by kernel_rfl
theorem rn_19 : runs Tryz.prog 19 = true := by kernel_rfl
theorem rn_20 : runs Tryz.prog 20 = true := by kernel_rfl
theorem rn_21 : runs Tryz.prog 21 = true := by kernel_rfl
theorem rn_22 : runs Tryz.prog 22 = true := by kernel_rfl
theorem rn_23 : runs Tryz.prog 23 = true := by kernel_rfl
theorem rn_24 : runs Tryz.prog 24 = true := by kernel_rfl
theorem rn_25 : runs Tryz.prog 25 = true := by kernel_rfl
theorem rn_26 : runs Tryz.prog 26 = true := by kernel_rfl
theorem rn_27 : runs Tryz.prog 27 = true := by kernel_rfl
theorem rn_28 : runs Tryz.prog 28 = true := by kernel_rfl
theorem rn_29 : runs Tryz.prog 29 = true := by kernel_rfl
theorem rn_30 : runs Tryz.prog 30 = true := by kernel_rfl
theorem rn_31 : runs Tryz.prog 31 = true := by kernel_rfl
theorem rn_32 : runs Tryz.prog 32 = true := by kernel_rfl
theorem rn_33 : runs Tryz.prog 33 = true := by kernel_rfl
theorem rn_34 : runs Tryz.prog 34 = true := by kernel_rfl
theorem rn_35 : runs Tryz.prog 35 = true := by kernel_rfl
theorem rn_36 : runs Tryz.prog 36 = true := by kernel_rfl
theorem rn_37 : runs Tryz.prog 37 = true := by kernel_rfl
theorem rn_38 : runs Tryz.prog 38 = true := by kernel_rfl
theorem rn_39 : runs Tryz.prog 39 = true := by kernel_rfl
theorem rn_40 : runs Tryz.prog 40 = true := by kernel_rfl
theorem rn_41 : runs Tryz.prog 41 = true := by kernel_rfl
theorem rn_42 : runs Tryz.prog 42 = true := by kernel_rfl
theorem rn_43 : runs Tryz.prog 43 = true := by kernel_rfl
theorem rn_44 : runs Tryz.prog 44 = true := by kernel_rfl
theorem rn_45 : runs Tryz.prog 45 = true := by kernel_rfl
theorem rn_46 : runs Tryz.prog 46 = true := by kernel_rfl
theorem rn_47 : runs Tryz.prog 47 = true := by kernel_rfl
theorem rn_48 : runs Tryz.prog 48 = true := by kernel_rfl
theorem rn_49 : runs Tryz.prog 49 = true := by kernel_rfl
theorem rn_50 : runs Tryz.prog 50 = true := by kernel_rfl
theorem rn_51 : runs Tryz.prog 51 = true := by kernel_rfl
theorem rn_52 : runs Tryz.prog 52 = true := by kernel_rfl
theorem rn_53 : runs Tryz.prog 53 = true := by kernel_rfl
theorem rn_54 : runs Tryz.prog 54 = true := by kernel_rfl
theorem rn_55 : runs Tryz.prog 55 = true := by kernel_rfl
theorem rn_56 : runs Tryz.prog 56 = true := by kernel_rfl
theorem rn_57 : runs Tryz.prog 57 = true := by kernel_rfl
theorem rn_58 : runs Tryz.prog 58 = true := by kernel_rfl
theorem rn_59 : runs Tryz.prog 59 = true := by kernel_rfl
theorem rn_60 : runs Tryz.prog 60 = true := by kernel_rfl
theorem rn_61 : runs Tryz.prog 61 = true := by kernel_rfl
theorem rn_62 : runs Tryz.prog 62 = true := by kernel_rfl
theorem rn_63 : runs Tryz.prog 63 = true := by kernel_rfl
theorem rn_65 : runs Tryz.prog 65 = true := by kernel_rfl
theorem rn_66 : runs Tryz.prog 66 = true := by kernel_rfl
theorem rn_67 : runs Tryz.prog 67 = true := by kernel_rfl
theorem rn_68 : runs Tryz.prog 68 = true := by kernel_rfl
theorem rn_69 : runs Tryz.prog 69 = true := by kernel_rfl
theorem rn_70 : runs Tryz.prog 70 = true := by kernel_rfl
theorem rn_71 : runs Tryz.prog 71 = true := by kernel_rfl
theorem rn_72 : runs Tryz.prog 72 = true := by kernel_rfl
theorem rn_73 : runs Tryz.prog 73 = true := by kernel_rfl
theorem rn_74 : runs Tryz.prog 74 = true := by kernel_rfl
theorem rn_75 : runs Tryz.prog 75 = true := by kernel_rfl
theorem rn_76 : runs Tryz.prog 76 = true := by kernel_rfl
theorem rn_77 : runs Tryz.prog 77 = true := by kernel_rfl
theorem rn_78 : runs Tryz.prog 78 = true := by kernel_rfl
theorem rn_79 : runs Tryz.prog 79 = true := by kernel_rfl
theorem rn_80 : runs Tryz.prog 80 = true := by kernel_rfl
theorem rn_81 : runs Tryz.prog 81 = true := by kernel_rfl
theorem rn_82 : runs Tryz.prog 82 = true := by kernel_rfl
theorem rn_83 : runs Tryz.prog 83 = true := by kernel_rfl
theorem rn_84 : runs Tryz.prog 84 = true := by kernel_rfl
theorem rn_85 : runs Tryz.prog 85 = true := by kernel_rfl
theorem rn_86 : runs Tryz.prog 86 = true := by kernel_rfl
theorem rn_87 : runs Tryz.prog 87 = true := by kernel_rfl
theorem rn_88 : runs Tryz.prog 88 = true := by kernel_rfl
theorem rn_90 : runs Tryz.prog 90 = true := by kernel_rfl
theorem rn_91 : runs Tryz.prog 91 = true := by kernel_rfl
theorem rn_93 : runs Tryz.prog 93 = true := by kernel_rfl
theorem rn_94 : runs Tryz.prog 94 = true := by kernel_rfl
theorem rn_95 : runs Tryz.prog 95 = true := by kernel_rfl
theorem rn_96 : runs Tryz.prog 96 = true := by kernel_rfl
theorem rn_97 : runs Tryz.prog 97 = true := by kernel_rfl
theorem rn_98 : runs Tryz.prog 98 = true := by kernel_rfl
theorem rn_99 : runs Tryz.prog 99 = true := by kernel_rfl
theorem rn_100 : runs Tryz.prog 100 = true := by kernel_rfl
theorem rn_101 : runs Tryz.prog 101 = true := by kernel_rfl
theorem rn_102 : runs Tryz.prog 102 = true := by kernel_rfl
theorem rn_103 : runs Tryz.prog 103 = true := by kernel_rfl
theorem rn_104 : runs Tryz.prog 104 = true := by kernel_rfl
theorem rn_105 : runs Tryz.prog 105 = true := by kernel_rfl
theorem rn_106 : runs Tryz.prog 106 = true := by kernel_rfl
theorem rn_107 : runs Tryz.prog 107 = true := by kernel_rfl
theorem rn_108 : runs Tryz.prog 108 = true := by kernel_rfl
theorem rn_110 : runs Tryz.prog 110 = true := by kernel_rfl
theorem rn_111 : runs Tryz.prog 111 = true := by kernel_rfl
theorem rn_112 : runs Tryz.prog 112 = true := by kernel_rfl
theorem rn_113 : runs Tryz.prog 113 = true := by kernel_rfl
theorem rn_114 : runs Tryz.prog 114 = true := by kernel_rfl
theorem rn_115 : runs Tryz.prog 115 = true := by kernel_rfl
theorem rn_116 : runs Tryz.prog 116 = true := by kernel_rfl
theorem rn_117 : runs Tryz.prog 117 = true := by kernel_rfl
theorem rn_118 : runs Tryz.prog 118 = true := by kernel_rfl
theorem rn_119 : runs Tryz.prog 119 = true := by kernel_rfl
theorem rn_120 : runs Tryz.prog 120 = true := by kernel_rfl
theorem rn_121 : runs Tryz.prog 121 = true := by kernel_rfl
theorem rn_122 : runs Tryz.prog 122 = true := by kernel_rfl
theorem rn_153 : runs Tryz.prog 153 = true := by kernel_rfl
theorem hm : Tryz.prog.follows .mixedOrders = true := by kernel_rfl
end Go.Proofs.YtdcjgjopmicidaaGreatDoor
/- What takes and programmes come to, in plain Lean: samples, takes, parts, places, sounds, mixes. -/
namespace Go.Proofs.YtdcjgjopmicidaaGreatDoor
open Go.Sx

/-- an int64 -/
def I64 (x : Int) : Prop := -9223372036854775808 ≤ x ∧ x ≤ 9223372036854775807
theorem I64.of {x : Int} (h : (Lit.int .i64 x).wf = true) : I64 x := by
  simp [Lit.wf, IntKind.min, IntKind.max, IntKind.signed, IntKind.bits] at h
  unfold I64; omega
theorem u8_of {x : Int} (h : (Lit.int .u8 x).wf = true) : 0 ≤ x ∧ x ≤ 255 := by
  simp [Lit.wf, IntKind.min, IntKind.max, IntKind.signed, IntKind.bits] at h
  omega
theorem u16_of {x : Int} (h : (Lit.int .u16 x).wf = true) : 0 ≤ x ∧ x ≤ 65535 := by
  simp [Lit.wf, IntKind.min, IntKind.max, IntKind.signed, IntKind.bits] at h
  omega
def betw (x lo hi : Int) : Bool := decide (lo ≤ x) && decide (x ≤ hi)
theorem betw_iff {x lo hi : Int} : betw x lo hi = true ↔ lo ≤ x ∧ x ≤ hi := by simp [betw]
def eI (x : Int) : List Value := [I x]
theorem eI_len (x : Int) : (eI x).length = 1 := rfl
theorem eI_one : ∀ x, ∀ u ∈ eI x, u.oneCell' = true := by intro x u hu; simp only [eI, List.mem_singleton] at hu; subst hu; rfl
def eU8 (x : Int) : List Value := [.int .u8 x]
theorem eU8_len (x : Int) : (eU8 x).length = 1 := rfl
theorem eU8_one : ∀ x, ∀ u ∈ eU8 x, u.oneCell' = true := by intro x u hu; simp only [eU8, List.mem_singleton] at hu; subst hu; rfl

/-! ### samples -/
structure Sam where
  l : Int
  r : Int
  deriving DecidableEq
instance : Inhabited Sam := ⟨⟨0, 0⟩⟩
def eSam (x : Sam) : List Value := [I x.l, I x.r]
theorem eSam_len (x : Sam) : (eSam x).length = 2 := rfl
theorem eSam_one : ∀ x, ∀ u ∈ eSam x, u.oneCell' = true := by intro x u hu; simp only [eSam, List.mem_cons, List.not_mem_nil, or_false] at hu; rcases hu with rfl | rfl <;> rfl
def Sam.wf (x : Sam) : Prop := I64 x.l ∧ I64 x.r
def Sam.ok (x : Sam) : Bool := betw x.l (-32767) 32767 && betw x.r (-32767) 32767
theorem Sam.ok_iff {x : Sam} : x.ok = true ↔ (-32767 ≤ x.l ∧ x.l ≤ 32767) ∧ (-32767 ≤ x.r ∧ x.r ≤ 32767) := by
  unfold Sam.ok; rw [Bool.and_eq_true, betw_iff, betw_iff]
def sErr (s : List Sam) : Int := if 4096 < s.length then 6 else if s.all Sam.ok = true then 0 else 2
theorem sErr_zero {s : List Sam} : sErr s = 0 ↔ s.length ≤ 4096 ∧ s.all Sam.ok = true := by
  unfold sErr
  split
  · constructor
    · intro h; cases h
    · intro h; omega
  · split
    · rename_i h1 h2; exact ⟨fun _ => ⟨by omega, h2⟩, fun _ => rfl⟩
    · rename_i h1 h2; exact ⟨fun h => (by cases h), fun h => absurd h.2 h2⟩
theorem sErr_cases (s : List Sam) : sErr s = 0 ∨ sErr s = 2 ∨ sErr s = 6 := by
  unfold sErr; split
  · exact .inr (.inr rfl)
  · split
    · exact .inl rfl
    · exact .inr (.inl rfl)
def amt (n : Int) : Int := max n (-n)
theorem amt_def (n : Int) : amt n = max n (-n) := rfl
def Sam.amts (x : Sam) : Sam := ⟨amt x.l, amt x.r⟩
def sad (a b : Sam) : Sam := ⟨a.l + b.l, a.r + b.r⟩

theorem getD_mem {α : Type} [Inhabited α] {l : List α} {i : Nat} (h : i < l.length) : l.getD i default ∈ l := by
  rw [List.getD, List.getElem?_eq_getElem h]; exact List.getElem_mem h
theorem all_getD {α : Type} [Inhabited α] {l : List α} {p : α → Bool} : l.all p = true ↔ ∀ i, i < l.length → p (l.getD i default) = true := by
  rw [List.all_eq_true]
  constructor
  · intro h i hi; exact h _ (getD_mem hi)
  · intro h x hx
    obtain ⟨i, hi, rfl⟩ := List.getElem_of_mem hx
    have := h i hi
    simpa [List.getD, hi] using this
theorem all_split {α : Type} [Inhabited α] {l : List α} {p : α → Bool} {i : Nat} (hi : i < l.length) (h : p (l.getD i default) = false) : l.all p = false := by
  rw [Bool.eq_false_iff]
  intro ha
  rw [all_getD.1 ha i hi] at h; cases h

/-! ### takes -/
def nmB (b : UInt8) : Bool := (decide (97 ≤ b.toNat) && decide (b.toNat ≤ 122)) || (decide (48 ≤ b.toNat) && decide (b.toNat ≤ 57))
def isNm (s : ByteArray) : Bool := decide (1 ≤ s.size) && decide (s.size ≤ 20) && s.data.toList.all nmB
structure Tk where
  name : ByteArray
  A : Option Addr
  c : Nat
  data : List Sam
instance : Inhabited Tk := ⟨⟨⟨#[]⟩, none, 0, []⟩⟩
def eTk (x : Tk) : List Value := [.string x.name, .slice x.A x.data.length x.c]
theorem eTk_len (x : Tk) : (eTk x).length = 2 := rfl
def Tk.wf (x : Tk) : Prop := x.name.size ≤ maxLen ∧ x.data.length ≤ x.c ∧ ∀ s ∈ x.data, s.wf
/-- takes that lie -/
def Tks (w : World) (A : Option Addr) (l : List Tk) : Prop := RdL w 2 eTk A l ∧ ∀ t ∈ l, RdL w 2 eSam t.A t.data ∧ t.wf
theorem Tks.sh {w0 w : World} {A : Option Addr} {l : List Tk} {H : Items} (h : Tks w0 A l) (m : SH w0 none' H w) : Tks w A l := ⟨h.1.sh m, fun t ht => ⟨(h.2 t ht).1.sh m, (h.2 t ht).2⟩⟩
def tErr (t : Tk) : Int := if 4096 < t.data.length then 6 else if (isNm t.name && decide (t.data.length ≠ 0) && t.data.all Sam.ok) = true then 0 else 2
theorem tErr_cases (t : Tk) : tErr t = 0 ∨ tErr t = 2 ∨ tErr t = 6 := by
  unfold tErr; split
  · exact .inr (.inr rfl)
  · split
    · exact .inl rfl
    · exact .inr (.inl rfl)
theorem tErr_zero {t : Tk} : tErr t = 0 ↔ t.data.length ≤ 4096 ∧ isNm t.name = true ∧ 0 < t.data.length ∧ t.data.all Sam.ok = true := by
  unfold tErr
  split
  · constructor
    · intro h; cases h
    · intro h; omega
  · split
    · rename_i h1 h2
      rw [Bool.and_eq_true, Bool.and_eq_true, decide_eq_true_iff] at h2
      exact ⟨fun _ => ⟨by omega, h2.1.1, by omega, h2.2⟩, fun _ => rfl⟩
    · rename_i h1 h2
      rw [Bool.and_eq_true, Bool.and_eq_true, decide_eq_true_iff] at h2
      exact ⟨fun h => (by cases h), fun h => absurd ⟨⟨h.2.1, by omega⟩, h.2.2.2⟩ h2⟩
theorem tErr_six {t : Tk} : tErr t = 6 ↔ 4096 < t.data.length := by
  unfold tErr
  split
  · rename_i h; exact ⟨fun _ => h, fun _ => rfl⟩
  · rename_i h1
    split
    · exact ⟨fun h => (by cases h), fun h => absurd h h1⟩
    · exact ⟨fun h => (by cases h), fun h => absurd h h1⟩
def lErr (l : List Tk) : Int :=
  if l.length < 1 ∨ 16 < l.length then 6 else if l.any (fun t => decide (tErr t = 6)) = true then 6 else if l.any (fun t => decide (tErr t ≠ 0)) = true then 2 else if (l.map Tk.name).Nodup then 0 else 12
structure TksOk (l : List Tk) : Prop where
  one : 1 ≤ l.length
  most : l.length ≤ 16
  each : ∀ t ∈ l, tErr t = 0
  apart : (l.map Tk.name).Nodup
theorem lErr_zero {l : List Tk} : lErr l = 0 ↔ TksOk l := by
  unfold lErr
  constructor
  · intro h
    split at h
    · cases h
    · rename_i h1
      split at h
      · cases h
      · split at h
        · cases h
        · rename_i h2 h3
          split at h
          · rename_i h4
            refine ⟨by omega, by omega, fun t ht => ?_, h4⟩
            rw [List.any_eq_true] at h3
            by_cases e : tErr t = 0
            · exact e
            · exact absurd ⟨t, ht, decide_eq_true e⟩ h3
          · cases h
  · intro h
    have h6 : ¬ l.any (fun t => decide (tErr t = 6)) = true := by
      rw [List.any_eq_true]; rintro ⟨t, ht, e⟩
      have := h.each t ht; rw [decide_eq_true_iff] at e; omega
    have h2 : ¬ l.any (fun t => decide (tErr t ≠ 0)) = true := by
      rw [List.any_eq_true]; rintro ⟨t, ht, e⟩
      have := h.each t ht; rw [decide_eq_true_iff] at e; omega
    have h1 := h.one
    have h3 := h.most
    rw [if_neg (by omega), if_neg h6, if_neg h2, if_pos h.apart]

/-! ### parts -/
structure Prt where
  tk : Int
  fr : Int
  to : Int
  gap : Int
  inn : Int
  out : Int
  lev : Int
  deriving DecidableEq
instance : Inhabited Prt := ⟨⟨0, 0, 0, 0, 0, 0, 0⟩⟩
def ePrt (x : Prt) : List Value := [I x.tk, I x.fr, I x.to, I x.gap, I x.inn, I x.out, I x.lev]
theorem ePrt_len (x : Prt) : (ePrt x).length = 7 := rfl
theorem ePrt_one : ∀ x, ∀ u ∈ ePrt x, u.oneCell' = true := by intro x u hu; simp only [ePrt, List.mem_cons, List.not_mem_nil, or_false] at hu; rcases hu with rfl | rfl | rfl | rfl | rfl | rfl | rfl <;> rfl
def Prt.wf (x : Prt) : Prop := (I64 x.tk ∧ I64 x.fr ∧ I64 x.to) ∧ I64 x.gap ∧ I64 x.inn ∧ I64 x.out ∧ I64 x.lev
def tkOf (l : List Tk) (x : Prt) : Tk := l.getD x.tk.toNat default
def goodP (l : List Tk) (x : Prt) : Bool :=
  decide (0 ≤ x.tk) && decide (x.tk < (l.length : Int)) && decide (0 ≤ x.fr) && decide (x.fr < x.to) && decide (x.to ≤ ((tkOf l x).data.length : Int)) && betw x.gap (-4096) 4096 && betw x.inn 0 1000 && betw x.out 0 1000 && betw x.lev 0 4000
structure PrtOk (l : List Tk) (x : Prt) : Prop where
  tk0 : 0 ≤ x.tk
  tk1 : x.tk < (l.length : Int)
  fr0 : 0 ≤ x.fr
  frto : x.fr < x.to
  to1 : x.to ≤ ((tkOf l x).data.length : Int)
  gap : -4096 ≤ x.gap ∧ x.gap ≤ 4096
  inn : 0 ≤ x.inn ∧ x.inn ≤ 1000
  out : 0 ≤ x.out ∧ x.out ≤ 1000
  lev : 0 ≤ x.lev ∧ x.lev ≤ 4000
theorem goodP_iff {l : List Tk} {x : Prt} : goodP l x = true ↔ PrtOk l x := by
  unfold goodP
  simp only [Bool.and_eq_true, betw_iff, decide_eq_true_iff]
  constructor
  · rintro ⟨⟨⟨⟨⟨⟨⟨⟨h1, h2⟩, h3⟩, h4⟩, h5⟩, h6⟩, h7⟩, h8⟩, h9⟩; exact ⟨h1, h2, h3, h4, h5, h6, h7, h8, h9⟩
  · rintro ⟨h1, h2, h3, h4, h5, h6, h7, h8, h9⟩; exact ⟨⟨⟨⟨⟨⟨⟨⟨h1, h2⟩, h3⟩, h4⟩, h5⟩, h6⟩, h7⟩, h8⟩, h9⟩
def fin (p : List Prt) : Int := (p.map fun x => x.gap + (x.to - x.fr)).sum
def pt (p : List Prt) (i : Nat) : Prt := p.getD i default
def lng (x : Prt) : Int := x.to - x.fr
def bgn (p : List Prt) (i : Nat) : Int := fin (p.take i) + (pt p i).gap
def en (p : List Prt) (i : Nat) : Int := bgn p i + lng (pt p i)
theorem take_succ {p : List Prt} {i : Nat} (hi : i < p.length) : p.take (i + 1) = p.take i ++ [pt p i] := by
  rw [List.take_add_one, List.getElem?_eq_getElem hi]; simp [pt, List.getD, hi]
theorem fin_nil : fin [] = 0 := rfl
theorem fin_app (p q : List Prt) : fin (p ++ q) = fin p + fin q := by unfold fin; rw [List.map_append, List.sum_append]
theorem fin_one (x : Prt) : fin [x] = x.gap + lng x := by unfold fin lng; simp
theorem fin_take {p : List Prt} {i : Nat} (hi : i < p.length) : fin (p.take (i + 1)) = en p i := by
  rw [take_succ hi, fin_app, fin_one]; unfold en bgn; omega
theorem fin_all (p : List Prt) : fin (p.take p.length) = fin p := by rw [List.take_length]
/-- a part of a possible programme -/
def posOk (p : List Prt) (i : Nat) : Prop := (i = 0 → 0 ≤ bgn p i) ∧ (0 < i → bgn p (i - 1) ≤ bgn p i ∧ en p (i - 1) ≤ en p i) ∧ (1 < i → en p (i - 2) ≤ bgn p i)
instance (p : List Prt) (i : Nat) : Decidable (posOk p i) := inferInstanceAs (Decidable (_ ∧ _))
def Poss (p : List Prt) : Prop := (∀ i, i < p.length → posOk p i) ∧ fin p ≤ 4096
instance (p : List Prt) : Decidable (Poss p) := inferInstanceAs (Decidable ((∀ i, i < p.length → posOk p i) ∧ fin p ≤ 4096))
def gErr (l : List Tk) (p : List Prt) : Int := if lErr l = 0 then (if 32 < p.length then 6 else if p.all (goodP l) = true then (if Poss p then 0 else 15) else 2) else lErr l
structure ProgOk (l : List Tk) (p : List Prt) : Prop where
  tks : TksOk l
  most : p.length ≤ 32
  each : ∀ i, i < p.length → PrtOk l (pt p i)
  pos : ∀ i, i < p.length → posOk p i
  fin : fin p ≤ 4096
theorem gErr_zero {l : List Tk} {p : List Prt} : gErr l p = 0 ↔ ProgOk l p := by
  unfold gErr
  constructor
  · intro h
    split at h
    · rename_i h0
      split at h
      · cases h
      · split at h
        · rename_i h1 h2
          split at h
          · rename_i h3
            exact ⟨lErr_zero.1 h0, by omega, fun i hi => goodP_iff.1 (all_getD.1 h2 i hi), h3.1, h3.2⟩
          · cases h
        · cases h
    · contradiction
  · rintro ⟨h1, h2, h3, h4, h5⟩
    rw [if_pos (lErr_zero.2 h1), if_neg (by omega), if_pos (all_getD.2 fun i hi => goodP_iff.2 (h3 i hi)), if_pos ⟨h4, h5⟩]
theorem lng_pos {l : List Tk} {x : Prt} (h : PrtOk l x) : 0 < lng x := by unfold lng; have := h.frto; omega
theorem bgn_nn {p : List Prt} {n : Nat} (h : ∀ i, i < n → posOk p i) : ∀ i, i < n → 0 ≤ bgn p i := by
  intro i
  induction i with
  | zero => intro hi; exact (h 0 hi).1 rfl
  | succ i ih => intro hi; have h1 := ih (by omega); have h2 := ((h (i + 1) hi).2.1 (by omega)).1; simp only [Nat.add_sub_cancel] at h2; omega
theorem bgn_mono {l : List Tk} {p : List Prt} (h : ProgOk l p) : ∀ i, i < p.length → 0 ≤ bgn p i := by
  intro i
  induction i with
  | zero => intro hi; exact (h.pos 0 hi).1 rfl
  | succ i ih => intro hi; have h1 := ih (by omega); have h2 := ((h.pos (i + 1) hi).2.1 (by omega)).1; simp only [Nat.add_sub_cancel] at h2; omega
theorem en_mono {l : List Tk} {p : List Prt} (h : ProgOk l p) : ∀ i j, i ≤ j → j < p.length → en p i ≤ en p j := by
  intro i j hij
  induction j with
  | zero => intro _; rw [show i = 0 by omega]; exact Int.le_refl _
  | succ j ih =>
    intro hj
    by_cases e : i = j + 1
    · rw [e]; exact Int.le_refl _
    · have h1 := ih (by omega) (by omega)
      have h2 := ((h.pos (j + 1) hj).2.1 (by omega)).2
      simp only [Nat.add_sub_cancel] at h2; omega
theorem en_fin {l : List Tk} {p : List Prt} (h : ProgOk l p) {i : Nat} (hi : i < p.length) : en p i ≤ fin p := by
  have h1 := en_mono h i (p.length - 1) (by omega) (by omega)
  have h2 := fin_take (p := p) (i := p.length - 1) (by omega)
  rw [show p.length - 1 + 1 = p.length by omega, fin_all] at h2
  omega
theorem fin_nonneg {l : List Tk} {p : List Prt} (h : ProgOk l p) : 0 ≤ fin p := by
  rcases Nat.eq_zero_or_pos p.length with h0 | h0
  · rw [List.length_eq_zero_iff.1 h0]; exact Int.le_refl _
  · have h1 := en_fin h h0
    have h2 := bgn_mono h 0 h0
    have h3 := lng_pos (h.each 0 h0)
    unfold en at h1; omega

/-- a part in its place -/
structure Plc where
  prt : Prt
  ix : Int
  b : Int
  e : Int
instance : Inhabited Plc := ⟨⟨default, 0, 0, 0⟩⟩
def ePlc (x : Plc) : List Value := [I x.prt.tk, I x.prt.fr, I x.prt.to, I x.prt.gap, I x.prt.inn, I x.prt.out, I x.prt.lev, I x.ix, I x.b, I x.e]
theorem ePlc_len (x : Plc) : (ePlc x).length = 10 := rfl
theorem ePlc_one : ∀ x, ∀ u ∈ ePlc x, u.oneCell' = true := by intro x u hu; simp only [ePlc, List.mem_cons, List.not_mem_nil, or_false] at hu; rcases hu with rfl | rfl | rfl | rfl | rfl | rfl | rfl | rfl | rfl | rfl <;> rfl
def plc (p : List Prt) (i : Nat) : Plc := ⟨pt p i, i, bgn p i, en p i⟩
def plcs (p : List Prt) (n : Nat) : List Plc := (List.range n).map (plc p)
theorem ePlc_plc (p : List Prt) (i : Nat) : ePlc (plc p i) = [I (pt p i).tk, I (pt p i).fr, I (pt p i).to, I (pt p i).gap, I (pt p i).inn, I (pt p i).out, I (pt p i).lev, I i, I (bgn p i), I (en p i)] := rfl
theorem plcs_len (p : List Prt) (n : Nat) : (plcs p n).length = n := by simp [plcs]
theorem plcs_succ (p : List Prt) (n : Nat) : plcs p (n + 1) = plcs p n ++ [plc p n] := by simp [plcs, List.range_succ]
theorem plcs_get {p : List Prt} {n i : Nat} (hi : i < n) : (plcs p n).getD i default = plc p i := by simp [plcs, List.getD, hi]

/-! ### sounds -/
def up (x : Prt) (k : Int) : Int := min k x.inn + 1
def dn (x : Prt) (k : Int) : Int := min (lng x - k - 1) x.out + 1
def gnN (x : Prt) (k lev : Int) : Int := lev * up x k * dn x k
def gnD (x : Prt) : Int := 1000 * (x.inn + 1) * (x.out + 1)
def ld (s : Int) (x : Prt) (k lev : Int) : Int := (s * gnN x k lev).tdiv (gnD x)
def smp (l : List Tk) (x : Prt) (k : Int) : Sam := (tkOf l x).data.getD (x.fr + k).toNat default
def snd (l : List Tk) (x : Prt) (k lev : Int) : Sam := ⟨ld (smp l x k).l x k lev, ld (smp l x k).r x k lev⟩
theorem up_bd {l : List Tk} {x : Prt} (h : PrtOk l x) {k : Int} (h0 : 0 ≤ k) : 1 ≤ up x k ∧ up x k ≤ x.inn + 1 := by
  unfold up; have := h.inn; omega
theorem dn_bd {l : List Tk} {x : Prt} (h : PrtOk l x) {k : Int} (h1 : k < lng x) : 1 ≤ dn x k ∧ dn x k ≤ x.out + 1 := by
  unfold dn; have := h.out; omega
theorem mul_bd {a b A B : Int} (h0 : 0 ≤ a) (h1 : a ≤ A) (h2 : 0 ≤ b) (h3 : b ≤ B) : 0 ≤ a * b ∧ a * b ≤ A * B := ⟨Int.mul_nonneg h0 h2, Int.mul_le_mul h1 h3 h2 (by omega)⟩
theorem gnD_pos {l : List Tk} {x : Prt} (h : PrtOk l x) : 1000 ≤ gnD x ∧ gnD x ≤ 1002001000 := by
  unfold gnD
  have h1 := h.inn; have h2 := h.out
  have := mul_bd (a := x.inn + 1 - 1) (b := x.out + 1 - 1) (A := 1000) (B := 1000) (by omega) (by omega) (by omega) (by omega)
  have e : 1000 * (x.inn + 1) * (x.out + 1) = 1000 * ((x.inn + 1 - 1) * (x.out + 1 - 1)) + 1000 * x.inn + 1000 * x.out + 1000 := by
    rw [show x.inn + 1 - 1 = x.inn by omega, show x.out + 1 - 1 = x.out by omega, Int.mul_assoc, Int.add_mul, Int.mul_add]; simp only [Int.mul_add, Int.one_mul, Int.mul_one]; omega
  omega
theorem gnN_bd {l : List Tk} {x : Prt} (h : PrtOk l x) {k lev : Int} (h0 : 0 ≤ k) (h1 : k < lng x) (h2 : 0 ≤ lev) : 0 ≤ gnN x k lev ∧ 1000 * gnN x k lev ≤ lev * gnD x := by
  have hu := up_bd h h0
  have hd := dn_bd h h1
  have a1 := mul_bd (a := up x k) (b := dn x k) (by omega) hu.2 (by omega) hd.2
  have a2 := mul_bd (a := lev) (b := up x k * dn x k) h2 (Int.le_refl _) a1.1 a1.2
  unfold gnN gnD
  rw [Int.mul_assoc lev]
  refine ⟨a2.1, ?_⟩
  rw [Int.mul_assoc 1000, Int.mul_left_comm lev 1000]
  exact Int.mul_le_mul_of_nonneg_left a2.2 (by omega)
theorem tdiv_bd {a d c : Int} (hd : 0 < d) (hc : 0 ≤ c) (h : 1000 * amt a ≤ c * d) : 1000 * amt (a.tdiv d) ≤ c := by
  rcases Int.le_total 0 a with h0 | h0
  · have e : amt a = a := by unfold amt; omega
    have q0 : 0 ≤ a.tdiv d := Int.tdiv_nonneg h0 (by omega)
    have e2 : amt (a.tdiv d) = a.tdiv d := by unfold amt; omega
    rw [e] at h; rw [e2]
    have h1 : a.tdiv d * d ≤ a := by rw [Int.tdiv_eq_ediv_of_nonneg h0]; exact Int.ediv_mul_le a (by omega)
    have h2 : (1000 * a.tdiv d) * d ≤ c * d := by rw [Int.mul_assoc]; omega
    exact Int.le_of_mul_le_mul_right h2 hd
  · have e : amt a = -a := by unfold amt; omega
    have hn : a.tdiv d = -((-a).tdiv d) := by rw [Int.neg_tdiv, Int.neg_neg]
    have q0 : 0 ≤ (-a).tdiv d := Int.tdiv_nonneg (by omega) (by omega)
    have e2 : amt (a.tdiv d) = (-a).tdiv d := by unfold amt; omega
    rw [e] at h; rw [e2]
    have h1 : (-a).tdiv d * d ≤ -a := by rw [Int.tdiv_eq_ediv_of_nonneg (by omega)]; exact Int.ediv_mul_le (-a) (by omega)
    have h2 : (1000 * (-a).tdiv d) * d ≤ c * d := by rw [Int.mul_assoc]; omega
    exact Int.le_of_mul_le_mul_right h2 hd
theorem amt_mul {a b : Int} (hb : 0 ≤ b) : amt (a * b) = amt a * b := by
  unfold amt
  rcases Int.le_total 0 a with h | h
  · have := Int.mul_nonneg h hb
    rw [Int.max_eq_left (by omega), Int.max_eq_left (by omega)]
  · have h1 : a * b ≤ 0 := by have := Int.mul_nonneg (a := -a) (by omega) hb; rw [Int.neg_mul] at this; omega
    rw [Int.max_eq_right (by omega), Int.max_eq_right (by omega), Int.neg_mul]
theorem amt_nonneg (a : Int) : 0 ≤ amt a := by unfold amt; omega
theorem ld_bd {l : List Tk} {x : Prt} (h : PrtOk l x) {s k lev : Int} (h0 : 0 ≤ k) (h1 : k < lng x) (h2 : 0 ≤ lev) : 1000 * amt (ld s x k lev) ≤ amt s * lev := by
  have hg := gnN_bd h h0 h1 h2
  have hd := (gnD_pos h).1
  unfold ld
  refine tdiv_bd (by omega) (Int.mul_nonneg (amt_nonneg s) h2) ?_
  rw [amt_mul hg.1, ← Int.mul_assoc, Int.mul_comm 1000, Int.mul_assoc, Int.mul_assoc]
  exact Int.mul_le_mul_of_nonneg_left hg.2 (amt_nonneg s)
theorem ld_sign {l : List Tk} {x : Prt} (h : PrtOk l x) {s k lev : Int} (h0 : 0 ≤ k) (h1 : k < lng x) (h2 : 0 ≤ lev) : (0 ≤ s → 0 ≤ ld s x k lev) ∧ (s ≤ 0 → ld s x k lev ≤ 0) := by
  have hg := gnN_bd h h0 h1 h2
  have hd := (gnD_pos h).1
  unfold ld
  constructor
  · intro hs; exact Int.tdiv_nonneg (Int.mul_nonneg hs hg.1) (by omega)
  · intro hs
    have : 0 ≤ (-(s * gnN x k lev)).tdiv (gnD x) := Int.tdiv_nonneg (by have := Int.mul_nonneg (a := -s) (by omega) hg.1; rw [Int.neg_mul] at this; omega) (by omega)
    rw [Int.neg_tdiv] at this; omega

/-! ### mixes -/
/-- what parts sound at a time, of the first n parts -/
def mixN (p : List Prt) (v : Nat → Int → Sam) : Nat → Int → Sam
  | 0, _ => ⟨0, 0⟩
  | n + 1, t => if bgn p n ≤ t ∧ t < en p n then sad (mixN p v n t) (v n (t - bgn p n)) else mixN p v n t
def mix (p : List Prt) (v : Nat → Int → Sam) : List Sam := (List.range (fin p).toNat).map fun (t : Nat) => mixN p v p.length t
def vR (l : List Tk) (p : List Prt) (i : Nat) (k : Int) : Sam := snd l (pt p i) k (pt p i).lev
def vH (l : List Tk) (p : List Prt) (f : Int) (i : Nat) (k : Int) : Sam := (snd l (pt p i) k (((pt p i).lev * f).tdiv 1000)).amts
def rend (l : List Tk) (p : List Prt) : List Sam := mix p (vR l p)
/-- the error of Render -/
def rErr (l : List Tk) (p : List Prt) : Int := if gErr l p = 0 then (if sErr (rend l p) = 0 then 0 else 4) else gErr l p
def rendL (l : List Tk) (p : List Prt) : List Sam := if rErr l p = 0 then rend l p else []
theorem mix_len (p : List Prt) (v : Nat → Int → Sam) : (mix p v).length = (fin p).toNat := by simp [mix]
theorem mix_get {p : List Prt} {v : Nat → Int → Sam} {t : Nat} (h : t < (fin p).toNat) : (mix p v).getD t default = mixN p v p.length t := by simp [mix, List.getD, h]
def Sam.bd (s : Sam) (B : Int) : Prop := (-B ≤ s.l ∧ s.l ≤ B) ∧ (-B ≤ s.r ∧ s.r ≤ B)
theorem mixN_bd {p : List Prt} {v : Nat → Int → Sam} {B : Int} (hB : 0 ≤ B) : ∀ n t, n ≤ p.length → (∀ i k, i < p.length → 0 ≤ k → k < lng (pt p i) → (v i k).bd B) → (mixN p v n t).bd (n * B) := by
  intro n t hn hv
  induction n with
  | zero => exact ⟨⟨by simp [mixN], by simp [mixN]⟩, ⟨by simp [mixN], by simp [mixN]⟩⟩
  | succ n ih =>
    have hi := ih (by omega)
    have e : ((n + 1 : Nat) : Int) * B = n * B + B := by rw [Int.natCast_succ, Int.add_mul, Int.one_mul]
    rw [e]
    unfold mixN
    unfold Sam.bd at hi ⊢
    split
    · rename_i h
      have hb := hv n (t - bgn p n) (by omega) (by omega) (by have := h.2; unfold en at this; omega)
      unfold Sam.bd at hb
      simp only [sad]
      omega
    · omega
theorem Sam.bd.mono {s : Sam} {B C : Int} (h : s.bd B) (hb : B ≤ C) : s.bd C := by unfold Sam.bd at h ⊢; omega
/-- a mix, of the parts before i everywhere, and of the part i before t -/
def mixS (p : List Prt) (v : Nat → Int → Sam) (i : Nat) (t : Int) : List Sam := (List.range (fin p).toNat).map fun (s : Nat) => if bgn p i ≤ s ∧ (s : Int) < t then mixN p v (i + 1) s else mixN p v i s
def mixP (p : List Prt) (v : Nat → Int → Sam) (i : Nat) : List Sam := (List.range (fin p).toNat).map fun (s : Nat) => mixN p v i s
theorem mixS_len (p : List Prt) (v : Nat → Int → Sam) (i : Nat) (t : Int) : (mixS p v i t).length = (fin p).toNat := by simp [mixS]
theorem mixP_len (p : List Prt) (v : Nat → Int → Sam) (i : Nat) : (mixP p v i).length = (fin p).toNat := by simp [mixP]
theorem mixP_zero (p : List Prt) (v : Nat → Int → Sam) : mixP p v 0 = List.replicate (fin p).toNat ⟨0, 0⟩ := by
  unfold mixP
  rw [List.eq_replicate_iff]
  refine ⟨by simp, fun b hb => ?_⟩
  obtain ⟨i, _, rfl⟩ := List.mem_map.1 hb
  rfl
theorem mixS_begin (p : List Prt) (v : Nat → Int → Sam) (i : Nat) : mixS p v i (bgn p i) = mixP p v i := by
  unfold mixS mixP
  apply List.map_congr_left
  intro s _
  rw [if_neg (by omega)]
theorem mixS_end (p : List Prt) (v : Nat → Int → Sam) (i : Nat) : mixS p v i (en p i) = mixP p v (i + 1) := by
  unfold mixS mixP
  apply List.map_congr_left
  intro s _
  by_cases h : bgn p i ≤ s ∧ (s : Int) < en p i
  · rw [if_pos h]
  · rw [if_neg h]; conv => rhs; rw [mixN, if_neg h]
theorem mixS_at {p : List Prt} {v : Nat → Int → Sam} {i t : Nat} (h : t < (fin p).toNat) : (mixS p v i t).getD t default = mixN p v i t := by
  simp [mixS, List.getD, h]
theorem mixS_set {p : List Prt} {v : Nat → Int → Sam} {i t : Nat} (h : t < (fin p).toNat) (h1 : bgn p i ≤ t) (h2 : (t : Int) < en p i) : (mixS p v i t).set t (sad (mixN p v i t) (v i (t - bgn p i))) = mixS p v i ((t : Int) + 1) := by
  apply List.ext_getElem (by simp [mixS])
  intro q h3 h4
  rw [List.getElem_set]
  simp only [mixS, List.getElem_map, List.getElem_range]
  by_cases e : t = q
  · subst e
    rw [if_pos rfl, if_pos ⟨h1, by omega⟩]
    conv => rhs; rw [mixN, if_pos ⟨h1, h2⟩]
  · rw [if_neg e]
    by_cases hc : bgn p i ≤ (q : Int) ∧ (q : Int) < t
    · rw [if_pos hc, if_pos ⟨hc.1, by omega⟩]
    · rw [if_neg hc, if_neg (by omega)]
theorem mixP_all (p : List Prt) (v : Nat → Int → Sam) : mixP p v p.length = mix p v := rfl
theorem smp_ok {l : List Tk} {x : Prt} (hl : TksOk l) (h : PrtOk l x) {k : Int} (h0 : 0 ≤ k) (h1 : k < lng x) : (x.fr + k).toNat < (tkOf l x).data.length ∧ x.tk.toNat < l.length ∧ (-32767 ≤ (smp l x k).l ∧ (smp l x k).l ≤ 32767) ∧ (-32767 ≤ (smp l x k).r ∧ (smp l x k).r ≤ 32767) := by
  have a := h.tk0; have b := h.tk1; have c := h.fr0; have d := h.frto; have e := h.to1
  unfold lng at h1
  have h2 : (x.fr + k).toNat < (tkOf l x).data.length := by omega
  have h3 : x.tk.toNat < l.length := by omega
  have h4 := (tErr_zero.1 (hl.each _ (getD_mem h3))).2.2.2
  have h5 := Sam.ok_iff.1 (all_getD.1 h4 _ h2)
  exact ⟨h2, h3, h5⟩
theorem snd_bd {l : List Tk} {x : Prt} (hl : TksOk l) (h : PrtOk l x) {k lev : Int} (h0 : 0 ≤ k) (h1 : k < lng x) (h2 : 0 ≤ lev) (h3 : lev ≤ 16000) : (snd l x k lev).bd 1000000 := by
  obtain ⟨_, _, s1, s2⟩ := smp_ok hl h h0 h1
  have b1 := ld_bd h (s := (smp l x k).l) h0 h1 h2
  have b2 := ld_bd h (s := (smp l x k).r) h0 h1 h2
  have c1 := mul_bd (amt_nonneg (smp l x k).l) (A := 32767) (by unfold amt; omega) h2 h3
  have c2 := mul_bd (amt_nonneg (smp l x k).r) (A := 32767) (by unfold amt; omega) h2 h3
  have d1 : 1000 * amt (ld (smp l x k).l x k lev) ≤ 524272000 := by omega
  have d2 : 1000 * amt (ld (smp l x k).r x k lev) ≤ 524272000 := by omega
  unfold amt at d1 d2
  unfold Sam.bd snd
  dsimp only
  omega
end Go.Proofs.YtdcjgjopmicidaaGreatDoor
