/- The program's tables, asked once. -/
import Derived.Test.YtdcjgjopmicidaaDoorSx8
import Derived.Test.YtdcjgjopmicidaaDoorProg
namespace Go.Proofs.YtdcjgjopmicidaaDoor
open Go.Sx Go.Proofs
theorem sz_1 : szOf Tryd.prog 1 = some 1 := by kernel_rfl
theorem by_1 : byOf Tryd.prog 1 = some 8 := by kernel_rfl
theorem ag_1 : aggOf Tryd.prog 1 = some false := by kernel_rfl
theorem zc_1 : zcOf Tryd.prog 1 = some [.nilFunc] := by kernel_rfl
theorem sz_2 : szOf Tryd.prog 2 = some 1 := by kernel_rfl
theorem by_2 : byOf Tryd.prog 2 = some 8 := by kernel_rfl
theorem ag_2 : aggOf Tryd.prog 2 = some false := by kernel_rfl
theorem zc_2 : zcOf Tryd.prog 2 = some [.int .i64 0] := by kernel_rfl
theorem zv_2 : (Tryd.prog.info? 2).bind (·.zero) = some (.int .i64 0) := by kernel_rfl
theorem sz_3 : szOf Tryd.prog 3 = some 1 := by kernel_rfl
theorem by_3 : byOf Tryd.prog 3 = some 8 := by kernel_rfl
theorem ag_3 : aggOf Tryd.prog 3 = some false := by kernel_rfl
theorem zc_3 : zcOf Tryd.prog 3 = some [.int .i64 0] := by kernel_rfl
theorem zv_3 : (Tryd.prog.info? 3).bind (·.zero) = some (.int .i64 0) := by kernel_rfl
theorem sz_4 : szOf Tryd.prog 4 = some 1 := by kernel_rfl
theorem by_4 : byOf Tryd.prog 4 = some 1 := by kernel_rfl
theorem ag_4 : aggOf Tryd.prog 4 = some false := by kernel_rfl
theorem zc_4 : zcOf Tryd.prog 4 = some [.bool false] := by kernel_rfl
theorem sz_5 : szOf Tryd.prog 5 = some 1 := by kernel_rfl
theorem by_5 : byOf Tryd.prog 5 = some 1 := by kernel_rfl
theorem ag_5 : aggOf Tryd.prog 5 = some false := by kernel_rfl
theorem zc_5 : zcOf Tryd.prog 5 = some [.int .u8 0] := by kernel_rfl
theorem zv_5 : (Tryd.prog.info? 5).bind (·.zero) = some (.int .u8 0) := by kernel_rfl
theorem sz_6 : szOf Tryd.prog 6 = some 1 := by kernel_rfl
theorem by_6 : byOf Tryd.prog 6 = some 1 := by kernel_rfl
theorem ag_6 : aggOf Tryd.prog 6 = some false := by kernel_rfl
theorem zc_6 : zcOf Tryd.prog 6 = some [.int .u8 0] := by kernel_rfl
theorem zv_6 : (Tryd.prog.info? 6).bind (·.zero) = some (.int .u8 0) := by kernel_rfl
theorem sz_7 : szOf Tryd.prog 7 = some 4 := by kernel_rfl
theorem by_7 : byOf Tryd.prog 7 = some 24 := by kernel_rfl
theorem ag_7 : aggOf Tryd.prog 7 = some true := by kernel_rfl
theorem zc_7 : zcOf Tryd.prog 7 = some [.int .i64 0, .int .i64 0, .bool false, .int .u8 0] := by kernel_rfl
theorem sa_7 : isAggOf Tryd.prog 7 = true := by kernel_rfl
theorem pl_7 : plOf Tryd.prog 7 = some [(0, 1), (1, 1), (2, 1), (3, 1)] := by kernel_rfl
theorem fo_7_0 : foOf Tryd.prog 7 0 = some 0 := by kernel_rfl
theorem fi_7_0 : fiOf Tryd.prog 7 0 = some (0, 1, false) := by kernel_rfl
theorem fo_7_1 : foOf Tryd.prog 7 1 = some 1 := by kernel_rfl
theorem fi_7_1 : fiOf Tryd.prog 7 1 = some (1, 1, false) := by kernel_rfl
theorem fo_7_2 : foOf Tryd.prog 7 2 = some 2 := by kernel_rfl
theorem fi_7_2 : fiOf Tryd.prog 7 2 = some (2, 1, false) := by kernel_rfl
theorem fo_7_3 : foOf Tryd.prog 7 3 = some 3 := by kernel_rfl
theorem fi_7_3 : fiOf Tryd.prog 7 3 = some (3, 1, false) := by kernel_rfl
theorem sz_8 : szOf Tryd.prog 8 = some 4 := by kernel_rfl
theorem by_8 : byOf Tryd.prog 8 = some 24 := by kernel_rfl
theorem ag_8 : aggOf Tryd.prog 8 = some true := by kernel_rfl
theorem zc_8 : zcOf Tryd.prog 8 = some [.int .i64 0, .int .i64 0, .bool false, .int .u8 0] := by kernel_rfl
theorem sa_8 : isAggOf Tryd.prog 8 = true := by kernel_rfl
theorem pl_8 : plOf Tryd.prog 8 = some [(0, 1), (1, 1), (2, 1), (3, 1)] := by kernel_rfl
theorem fo_8_0 : foOf Tryd.prog 8 0 = some 0 := by kernel_rfl
theorem fi_8_0 : fiOf Tryd.prog 8 0 = some (0, 1, false) := by kernel_rfl
theorem fo_8_1 : foOf Tryd.prog 8 1 = some 1 := by kernel_rfl
theorem fi_8_1 : fiOf Tryd.prog 8 1 = some (1, 1, false) := by kernel_rfl
theorem fo_8_2 : foOf Tryd.prog 8 2 = some 2 := by kernel_rfl
theorem fi_8_2 : fiOf Tryd.prog 8 2 = some (2, 1, false) := by kernel_rfl
theorem fo_8_3 : foOf Tryd.prog 8 3 = some 3 := by kernel_rfl
theorem fi_8_3 : fiOf Tryd.prog 8 3 = some (3, 1, false) := by kernel_rfl
theorem sz_9 : szOf Tryd.prog 9 = some 1 := by kernel_rfl
theorem by_9 : byOf Tryd.prog 9 = some 16 := by kernel_rfl
theorem ag_9 : aggOf Tryd.prog 9 = some false := by kernel_rfl
theorem zc_9 : zcOf Tryd.prog 9 = some [.string .empty] := by kernel_rfl
theorem sz_10 : szOf Tryd.prog 10 = some 1 := by kernel_rfl
theorem by_10 : byOf Tryd.prog 10 = some 16 := by kernel_rfl
theorem ag_10 : aggOf Tryd.prog 10 = some false := by kernel_rfl
theorem zc_10 : zcOf Tryd.prog 10 = some [.string .empty] := by kernel_rfl
theorem sz_11 : szOf Tryd.prog 11 = some 1 := by kernel_rfl
theorem by_11 : byOf Tryd.prog 11 = some 16 := by kernel_rfl
theorem ag_11 : aggOf Tryd.prog 11 = some false := by kernel_rfl
theorem zc_11 : zcOf Tryd.prog 11 = some [.string .empty] := by kernel_rfl
theorem sz_12 : szOf Tryd.prog 12 = some 1 := by kernel_rfl
theorem by_12 : byOf Tryd.prog 12 = some 8 := by kernel_rfl
theorem ag_12 : aggOf Tryd.prog 12 = some false := by kernel_rfl
theorem zc_12 : zcOf Tryd.prog 12 = some [.int .u64 0] := by kernel_rfl
theorem zv_12 : (Tryd.prog.info? 12).bind (·.zero) = some (.int .u64 0) := by kernel_rfl
theorem sz_13 : szOf Tryd.prog 13 = some 2 := by kernel_rfl
theorem by_13 : byOf Tryd.prog 13 = some 24 := by kernel_rfl
theorem ag_13 : aggOf Tryd.prog 13 = some true := by kernel_rfl
theorem zc_13 : zcOf Tryd.prog 13 = some [.string .empty, .int .u64 0] := by kernel_rfl
theorem sa_13 : isAggOf Tryd.prog 13 = true := by kernel_rfl
theorem pl_13 : plOf Tryd.prog 13 = some [(0, 1), (1, 1)] := by kernel_rfl
theorem fo_13_0 : foOf Tryd.prog 13 0 = some 0 := by kernel_rfl
theorem fi_13_0 : fiOf Tryd.prog 13 0 = some (0, 1, false) := by kernel_rfl
theorem fo_13_1 : foOf Tryd.prog 13 1 = some 1 := by kernel_rfl
theorem fi_13_1 : fiOf Tryd.prog 13 1 = some (1, 1, false) := by kernel_rfl
theorem sz_14 : szOf Tryd.prog 14 = some 2 := by kernel_rfl
theorem by_14 : byOf Tryd.prog 14 = some 24 := by kernel_rfl
theorem ag_14 : aggOf Tryd.prog 14 = some true := by kernel_rfl
theorem zc_14 : zcOf Tryd.prog 14 = some [.string .empty, .int .u64 0] := by kernel_rfl
theorem sa_14 : isAggOf Tryd.prog 14 = true := by kernel_rfl
theorem pl_14 : plOf Tryd.prog 14 = some [(0, 1), (1, 1)] := by kernel_rfl
theorem fo_14_0 : foOf Tryd.prog 14 0 = some 0 := by kernel_rfl
theorem fi_14_0 : fiOf Tryd.prog 14 0 = some (0, 1, false) := by kernel_rfl
theorem fo_14_1 : foOf Tryd.prog 14 1 = some 1 := by kernel_rfl
theorem fi_14_1 : fiOf Tryd.prog 14 1 = some (1, 1, false) := by kernel_rfl
theorem sz_15 : szOf Tryd.prog 15 = some 1 := by kernel_rfl
theorem by_15 : byOf Tryd.prog 15 = some 8 := by kernel_rfl
theorem ag_15 : aggOf Tryd.prog 15 = some false := by kernel_rfl
theorem zc_15 : zcOf Tryd.prog 15 = some [.pointer none] := by kernel_rfl
theorem sz_16 : szOf Tryd.prog 16 = some 1 := by kernel_rfl
theorem by_16 : byOf Tryd.prog 16 = some 8 := by kernel_rfl
theorem ag_16 : aggOf Tryd.prog 16 = some false := by kernel_rfl
theorem zc_16 : zcOf Tryd.prog 16 = some [.pointer none] := by kernel_rfl
theorem sz_17 : szOf Tryd.prog 17 = some 1 := by kernel_rfl
theorem by_17 : byOf Tryd.prog 17 = some 8 := by kernel_rfl
theorem ag_17 : aggOf Tryd.prog 17 = some false := by kernel_rfl
theorem zc_17 : zcOf Tryd.prog 17 = some [.pointer none] := by kernel_rfl
theorem sz_18 : szOf Tryd.prog 18 = some 1 := by kernel_rfl
theorem by_18 : byOf Tryd.prog 18 = some 8 := by kernel_rfl
theorem ag_18 : aggOf Tryd.prog 18 = some true := by kernel_rfl
theorem zc_18 : zcOf Tryd.prog 18 = some [.pointer none] := by kernel_rfl
theorem sa_18 : isAggOf Tryd.prog 18 = true := by kernel_rfl
theorem pl_18 : plOf Tryd.prog 18 = some [(0, 1)] := by kernel_rfl
theorem fo_18_0 : foOf Tryd.prog 18 0 = some 0 := by kernel_rfl
theorem fi_18_0 : fiOf Tryd.prog 18 0 = some (0, 1, false) := by kernel_rfl
theorem sz_19 : szOf Tryd.prog 19 = some 1 := by kernel_rfl
theorem by_19 : byOf Tryd.prog 19 = some 8 := by kernel_rfl
theorem ag_19 : aggOf Tryd.prog 19 = some true := by kernel_rfl
theorem zc_19 : zcOf Tryd.prog 19 = some [.pointer none] := by kernel_rfl
theorem sa_19 : isAggOf Tryd.prog 19 = true := by kernel_rfl
theorem pl_19 : plOf Tryd.prog 19 = some [(0, 1)] := by kernel_rfl
theorem fo_19_0 : foOf Tryd.prog 19 0 = some 0 := by kernel_rfl
theorem fi_19_0 : fiOf Tryd.prog 19 0 = some (0, 1, false) := by kernel_rfl
theorem sz_20 : szOf Tryd.prog 20 = some 1 := by kernel_rfl
theorem by_20 : byOf Tryd.prog 20 = some 16 := by kernel_rfl
theorem ag_20 : aggOf Tryd.prog 20 = some false := by kernel_rfl
theorem zc_20 : zcOf Tryd.prog 20 = some [.nilIface] := by kernel_rfl
theorem sz_21 : szOf Tryd.prog 21 = some 1 := by kernel_rfl
theorem by_21 : byOf Tryd.prog 21 = some 4 := by kernel_rfl
theorem ag_21 : aggOf Tryd.prog 21 = some false := by kernel_rfl
theorem zc_21 : zcOf Tryd.prog 21 = some [.int .i32 0] := by kernel_rfl
theorem zv_21 : (Tryd.prog.info? 21).bind (·.zero) = some (.int .i32 0) := by kernel_rfl
theorem sz_22 : szOf Tryd.prog 22 = some 1 := by kernel_rfl
theorem by_22 : byOf Tryd.prog 22 = some 24 := by kernel_rfl
theorem ag_22 : aggOf Tryd.prog 22 = some false := by kernel_rfl
theorem zc_22 : zcOf Tryd.prog 22 = some [.slice none 0 0] := by kernel_rfl
theorem sz_23 : szOf Tryd.prog 23 = some 2 := by kernel_rfl
theorem by_23 : byOf Tryd.prog 23 = some 40 := by kernel_rfl
theorem ag_23 : aggOf Tryd.prog 23 = some true := by kernel_rfl
theorem zc_23 : zcOf Tryd.prog 23 = some [.string .empty, .slice none 0 0] := by kernel_rfl
theorem sa_23 : isAggOf Tryd.prog 23 = true := by kernel_rfl
theorem pl_23 : plOf Tryd.prog 23 = some [(0, 1), (1, 1)] := by kernel_rfl
theorem fo_23_0 : foOf Tryd.prog 23 0 = some 0 := by kernel_rfl
theorem fi_23_0 : fiOf Tryd.prog 23 0 = some (0, 1, false) := by kernel_rfl
theorem fo_23_1 : foOf Tryd.prog 23 1 = some 1 := by kernel_rfl
theorem fi_23_1 : fiOf Tryd.prog 23 1 = some (1, 1, false) := by kernel_rfl
theorem sz_24 : szOf Tryd.prog 24 = some 2 := by kernel_rfl
theorem by_24 : byOf Tryd.prog 24 = some 40 := by kernel_rfl
theorem ag_24 : aggOf Tryd.prog 24 = some true := by kernel_rfl
theorem zc_24 : zcOf Tryd.prog 24 = some [.string .empty, .slice none 0 0] := by kernel_rfl
theorem sa_24 : isAggOf Tryd.prog 24 = true := by kernel_rfl
theorem pl_24 : plOf Tryd.prog 24 = some [(0, 1), (1, 1)] := by kernel_rfl
theorem fo_24_0 : foOf Tryd.prog 24 0 = some 0 := by kernel_rfl
theorem fi_24_0 : fiOf Tryd.prog 24 0 = some (0, 1, false) := by kernel_rfl
theorem fo_24_1 : foOf Tryd.prog 24 1 = some 1 := by kernel_rfl
theorem fi_24_1 : fiOf Tryd.prog 24 1 = some (1, 1, false) := by kernel_rfl
theorem sz_25 : szOf Tryd.prog 25 = some 1 := by kernel_rfl
theorem by_25 : byOf Tryd.prog 25 = some 24 := by kernel_rfl
theorem ag_25 : aggOf Tryd.prog 25 = some false := by kernel_rfl
theorem zc_25 : zcOf Tryd.prog 25 = some [.slice none 0 0] := by kernel_rfl
theorem sz_26 : szOf Tryd.prog 26 = some 1 := by kernel_rfl
theorem by_26 : byOf Tryd.prog 26 = some 8 := by kernel_rfl
theorem ag_26 : aggOf Tryd.prog 26 = some false := by kernel_rfl
theorem zc_26 : zcOf Tryd.prog 26 = some [.nilFunc] := by kernel_rfl
theorem sz_27 : szOf Tryd.prog 27 = some 1 := by kernel_rfl
theorem by_27 : byOf Tryd.prog 27 = some 24 := by kernel_rfl
theorem ag_27 : aggOf Tryd.prog 27 = some false := by kernel_rfl
theorem zc_27 : zcOf Tryd.prog 27 = some [.slice none 0 0] := by kernel_rfl
theorem sz_28 : szOf Tryd.prog 28 = some 1 := by kernel_rfl
theorem by_28 : byOf Tryd.prog 28 = some 8 := by kernel_rfl
theorem ag_28 : aggOf Tryd.prog 28 = some false := by kernel_rfl
theorem zc_28 : zcOf Tryd.prog 28 = some [.nilFunc] := by kernel_rfl
theorem sz_29 : szOf Tryd.prog 29 = some 1 := by kernel_rfl
theorem by_29 : byOf Tryd.prog 29 = some 8 := by kernel_rfl
theorem ag_29 : aggOf Tryd.prog 29 = some false := by kernel_rfl
theorem zc_29 : zcOf Tryd.prog 29 = some [.int .i64 0] := by kernel_rfl
theorem zv_29 : (Tryd.prog.info? 29).bind (·.zero) = some (.int .i64 0) := by kernel_rfl
theorem sz_31 : szOf Tryd.prog 31 = some 1 := by kernel_rfl
theorem by_31 : byOf Tryd.prog 31 = some 8 := by kernel_rfl
theorem ag_31 : aggOf Tryd.prog 31 = some false := by kernel_rfl
theorem zc_31 : zcOf Tryd.prog 31 = some [.nilFunc] := by kernel_rfl
theorem sz_33 : szOf Tryd.prog 33 = some 1 := by kernel_rfl
theorem by_33 : byOf Tryd.prog 33 = some 8 := by kernel_rfl
theorem ag_33 : aggOf Tryd.prog 33 = some false := by kernel_rfl
theorem zc_33 : zcOf Tryd.prog 33 = some [.nilFunc] := by kernel_rfl
theorem sz_34 : szOf Tryd.prog 34 = some 1 := by kernel_rfl
theorem by_34 : byOf Tryd.prog 34 = some 8 := by kernel_rfl
theorem ag_34 : aggOf Tryd.prog 34 = some false := by kernel_rfl
theorem zc_34 : zcOf Tryd.prog 34 = some [.nilFunc] := by kernel_rfl
theorem sz_35 : szOf Tryd.prog 35 = some 1 := by kernel_rfl
theorem by_35 : byOf Tryd.prog 35 = some 8 := by kernel_rfl
theorem ag_35 : aggOf Tryd.prog 35 = some false := by kernel_rfl
theorem zc_35 : zcOf Tryd.prog 35 = some [.nilFunc] := by kernel_rfl
theorem sz_36 : szOf Tryd.prog 36 = some 1 := by kernel_rfl
theorem by_36 : byOf Tryd.prog 36 = some 24 := by kernel_rfl
theorem ag_36 : aggOf Tryd.prog 36 = some false := by kernel_rfl
theorem zc_36 : zcOf Tryd.prog 36 = some [.slice none 0 0] := by kernel_rfl
theorem sz_38 : szOf Tryd.prog 38 = some 1 := by kernel_rfl
theorem by_38 : byOf Tryd.prog 38 = some 8 := by kernel_rfl
theorem ag_38 : aggOf Tryd.prog 38 = some false := by kernel_rfl
theorem zc_38 : zcOf Tryd.prog 38 = some [.nilFunc] := by kernel_rfl
theorem sz_40 : szOf Tryd.prog 40 = some 1 := by kernel_rfl
theorem by_40 : byOf Tryd.prog 40 = some 8 := by kernel_rfl
theorem ag_40 : aggOf Tryd.prog 40 = some false := by kernel_rfl
theorem zc_40 : zcOf Tryd.prog 40 = some [.nilFunc] := by kernel_rfl
theorem sz_41 : szOf Tryd.prog 41 = some 1 := by kernel_rfl
theorem by_41 : byOf Tryd.prog 41 = some 24 := by kernel_rfl
theorem ag_41 : aggOf Tryd.prog 41 = some false := by kernel_rfl
theorem zc_41 : zcOf Tryd.prog 41 = some [.slice none 0 0] := by kernel_rfl
theorem sz_43 : szOf Tryd.prog 43 = some 1 := by kernel_rfl
theorem by_43 : byOf Tryd.prog 43 = some 8 := by kernel_rfl
theorem ag_43 : aggOf Tryd.prog 43 = some false := by kernel_rfl
theorem zc_43 : zcOf Tryd.prog 43 = some [.nilFunc] := by kernel_rfl
theorem sz_44 : szOf Tryd.prog 44 = some 2 := by kernel_rfl
theorem by_44 : byOf Tryd.prog 44 = some 16 := by kernel_rfl
theorem ag_44 : aggOf Tryd.prog 44 = some true := by kernel_rfl
theorem zc_44 : zcOf Tryd.prog 44 = some [.int .i64 0, .int .i64 0] := by kernel_rfl
theorem sa_44 : isAggOf Tryd.prog 44 = true := by kernel_rfl
theorem pl_44 : plOf Tryd.prog 44 = some [(0, 1), (1, 1)] := by kernel_rfl
theorem fo_44_0 : foOf Tryd.prog 44 0 = some 0 := by kernel_rfl
theorem fi_44_0 : fiOf Tryd.prog 44 0 = some (0, 1, false) := by kernel_rfl
theorem fo_44_1 : foOf Tryd.prog 44 1 = some 1 := by kernel_rfl
theorem fi_44_1 : fiOf Tryd.prog 44 1 = some (1, 1, false) := by kernel_rfl
theorem sz_45 : szOf Tryd.prog 45 = some 2 := by kernel_rfl
theorem by_45 : byOf Tryd.prog 45 = some 16 := by kernel_rfl
theorem ag_45 : aggOf Tryd.prog 45 = some true := by kernel_rfl
theorem zc_45 : zcOf Tryd.prog 45 = some [.int .i64 0, .int .i64 0] := by kernel_rfl
theorem sa_45 : isAggOf Tryd.prog 45 = true := by kernel_rfl
theorem pl_45 : plOf Tryd.prog 45 = some [(0, 1), (1, 1)] := by kernel_rfl
theorem fo_45_0 : foOf Tryd.prog 45 0 = some 0 := by kernel_rfl
theorem fi_45_0 : fiOf Tryd.prog 45 0 = some (0, 1, false) := by kernel_rfl
theorem fo_45_1 : foOf Tryd.prog 45 1 = some 1 := by kernel_rfl
theorem fi_45_1 : fiOf Tryd.prog 45 1 = some (1, 1, false) := by kernel_rfl
theorem sz_46 : szOf Tryd.prog 46 = some 2 := by kernel_rfl
theorem by_46 : byOf Tryd.prog 46 = some 16 := by kernel_rfl
theorem ag_46 : aggOf Tryd.prog 46 = some true := by kernel_rfl
theorem zc_46 : zcOf Tryd.prog 46 = some [.int .i64 0, .int .i64 0] := by kernel_rfl
theorem sa_46 : isAggOf Tryd.prog 46 = true := by kernel_rfl
theorem pl_46 : plOf Tryd.prog 46 = some [(0, 1), (1, 1)] := by kernel_rfl
theorem sz_47 : szOf Tryd.prog 47 = some 1 := by kernel_rfl
theorem by_47 : byOf Tryd.prog 47 = some 8 := by kernel_rfl
theorem ag_47 : aggOf Tryd.prog 47 = some false := by kernel_rfl
theorem zc_47 : zcOf Tryd.prog 47 = some [.nilFunc] := by kernel_rfl
theorem sz_48 : szOf Tryd.prog 48 = some 1 := by kernel_rfl
theorem by_48 : byOf Tryd.prog 48 = some 8 := by kernel_rfl
theorem ag_48 : aggOf Tryd.prog 48 = some false := by kernel_rfl
theorem zc_48 : zcOf Tryd.prog 48 = some [.pointer none] := by kernel_rfl
theorem sz_49 : szOf Tryd.prog 49 = some 1 := by kernel_rfl
theorem by_49 : byOf Tryd.prog 49 = some 4 := by kernel_rfl
theorem ag_49 : aggOf Tryd.prog 49 = some false := by kernel_rfl
theorem zc_49 : zcOf Tryd.prog 49 = some [.int .u32 0] := by kernel_rfl
theorem zv_49 : (Tryd.prog.info? 49).bind (·.zero) = some (.int .u32 0) := by kernel_rfl
theorem sz_50 : szOf Tryd.prog 50 = some 2 := by kernel_rfl
theorem by_50 : byOf Tryd.prog 50 = some 8 := by kernel_rfl
theorem ag_50 : aggOf Tryd.prog 50 = some true := by kernel_rfl
theorem zc_50 : zcOf Tryd.prog 50 = some [.int .u32 0, .int .u32 0] := by kernel_rfl
theorem sa_50 : isAggOf Tryd.prog 50 = true := by kernel_rfl
theorem pl_50 : plOf Tryd.prog 50 = some [(0, 1), (1, 1)] := by kernel_rfl
theorem fo_50_0 : foOf Tryd.prog 50 0 = some 0 := by kernel_rfl
theorem fi_50_0 : fiOf Tryd.prog 50 0 = some (0, 1, false) := by kernel_rfl
theorem fo_50_1 : foOf Tryd.prog 50 1 = some 1 := by kernel_rfl
theorem fi_50_1 : fiOf Tryd.prog 50 1 = some (1, 1, false) := by kernel_rfl
theorem sz_51 : szOf Tryd.prog 51 = some 2 := by kernel_rfl
theorem by_51 : byOf Tryd.prog 51 = some 8 := by kernel_rfl
theorem ag_51 : aggOf Tryd.prog 51 = some true := by kernel_rfl
theorem zc_51 : zcOf Tryd.prog 51 = some [.int .u32 0, .int .u32 0] := by kernel_rfl
theorem sa_51 : isAggOf Tryd.prog 51 = true := by kernel_rfl
theorem pl_51 : plOf Tryd.prog 51 = some [(0, 1), (1, 1)] := by kernel_rfl
theorem fo_51_0 : foOf Tryd.prog 51 0 = some 0 := by kernel_rfl
theorem fi_51_0 : fiOf Tryd.prog 51 0 = some (0, 1, false) := by kernel_rfl
theorem fo_51_1 : foOf Tryd.prog 51 1 = some 1 := by kernel_rfl
theorem fi_51_1 : fiOf Tryd.prog 51 1 = some (1, 1, false) := by kernel_rfl
theorem sz_52 : szOf Tryd.prog 52 = some 3 := by kernel_rfl
theorem by_52 : byOf Tryd.prog 52 = some 32 := by kernel_rfl
theorem ag_52 : aggOf Tryd.prog 52 = some true := by kernel_rfl
theorem zc_52 : zcOf Tryd.prog 52 = some [.int .u32 0, .int .u32 0, .slice none 0 0] := by kernel_rfl
theorem sa_52 : isAggOf Tryd.prog 52 = true := by kernel_rfl
theorem pl_52 : plOf Tryd.prog 52 = some [(0, 2), (2, 1)] := by kernel_rfl
theorem fo_52_0 : foOf Tryd.prog 52 0 = some 0 := by kernel_rfl
theorem fi_52_0 : fiOf Tryd.prog 52 0 = some (0, 2, true) := by kernel_rfl
theorem fo_52_1 : foOf Tryd.prog 52 1 = some 2 := by kernel_rfl
theorem fi_52_1 : fiOf Tryd.prog 52 1 = some (2, 1, false) := by kernel_rfl
theorem sz_53 : szOf Tryd.prog 53 = some 3 := by kernel_rfl
theorem by_53 : byOf Tryd.prog 53 = some 32 := by kernel_rfl
theorem ag_53 : aggOf Tryd.prog 53 = some true := by kernel_rfl
theorem zc_53 : zcOf Tryd.prog 53 = some [.int .u32 0, .int .u32 0, .slice none 0 0] := by kernel_rfl
theorem sa_53 : isAggOf Tryd.prog 53 = true := by kernel_rfl
theorem pl_53 : plOf Tryd.prog 53 = some [(0, 2), (2, 1)] := by kernel_rfl
theorem fo_53_0 : foOf Tryd.prog 53 0 = some 0 := by kernel_rfl
theorem fi_53_0 : fiOf Tryd.prog 53 0 = some (0, 2, true) := by kernel_rfl
theorem fo_53_1 : foOf Tryd.prog 53 1 = some 2 := by kernel_rfl
theorem fi_53_1 : fiOf Tryd.prog 53 1 = some (2, 1, false) := by kernel_rfl
theorem sz_54 : szOf Tryd.prog 54 = some 1 := by kernel_rfl
theorem by_54 : byOf Tryd.prog 54 = some 8 := by kernel_rfl
theorem ag_54 : aggOf Tryd.prog 54 = some false := by kernel_rfl
theorem zc_54 : zcOf Tryd.prog 54 = some [.nilFunc] := by kernel_rfl
theorem sz_55 : szOf Tryd.prog 55 = some 1 := by kernel_rfl
theorem by_55 : byOf Tryd.prog 55 = some 8 := by kernel_rfl
theorem ag_55 : aggOf Tryd.prog 55 = some false := by kernel_rfl
theorem zc_55 : zcOf Tryd.prog 55 = some [.nilFunc] := by kernel_rfl
theorem sz_56 : szOf Tryd.prog 56 = some 2 := by kernel_rfl
theorem by_56 : byOf Tryd.prog 56 = some 8 := by kernel_rfl
theorem ag_56 : aggOf Tryd.prog 56 = some true := by kernel_rfl
theorem zc_56 : zcOf Tryd.prog 56 = some [.int .u32 0, .int .u32 0] := by kernel_rfl
theorem sa_56 : isAggOf Tryd.prog 56 = true := by kernel_rfl
theorem pl_56 : plOf Tryd.prog 56 = some [(0, 1), (1, 1)] := by kernel_rfl
theorem sz_57 : szOf Tryd.prog 57 = some 1 := by kernel_rfl
theorem by_57 : byOf Tryd.prog 57 = some 8 := by kernel_rfl
theorem ag_57 : aggOf Tryd.prog 57 = some false := by kernel_rfl
theorem zc_57 : zcOf Tryd.prog 57 = some [.nilFunc] := by kernel_rfl
theorem sz_58 : szOf Tryd.prog 58 = some 1 := by kernel_rfl
theorem by_58 : byOf Tryd.prog 58 = some 8 := by kernel_rfl
theorem ag_58 : aggOf Tryd.prog 58 = some false := by kernel_rfl
theorem zc_58 : zcOf Tryd.prog 58 = some [.nilFunc] := by kernel_rfl
theorem sz_59 : szOf Tryd.prog 59 = some 1 := by kernel_rfl
theorem by_59 : byOf Tryd.prog 59 = some 8 := by kernel_rfl
theorem ag_59 : aggOf Tryd.prog 59 = some false := by kernel_rfl
theorem zc_59 : zcOf Tryd.prog 59 = some [.nilFunc] := by kernel_rfl
theorem sz_60 : szOf Tryd.prog 60 = some 1 := by kernel_rfl
theorem by_60 : byOf Tryd.prog 60 = some 8 := by kernel_rfl
theorem ag_60 : aggOf Tryd.prog 60 = some false := by kernel_rfl
theorem zc_60 : zcOf Tryd.prog 60 = some [.int .u64 0] := by kernel_rfl
theorem zv_60 : (Tryd.prog.info? 60).bind (·.zero) = some (.int .u64 0) := by kernel_rfl
theorem sz_61 : szOf Tryd.prog 61 = some 1 := by kernel_rfl
theorem by_61 : byOf Tryd.prog 61 = some 8 := by kernel_rfl
theorem ag_61 : aggOf Tryd.prog 61 = some false := by kernel_rfl
theorem zc_61 : zcOf Tryd.prog 61 = some [.nilFunc] := by kernel_rfl
theorem sz_62 : szOf Tryd.prog 62 = some 1 := by kernel_rfl
theorem by_62 : byOf Tryd.prog 62 = some 8 := by kernel_rfl
theorem ag_62 : aggOf Tryd.prog 62 = some false := by kernel_rfl
theorem zc_62 : zcOf Tryd.prog 62 = some [.nilFunc] := by kernel_rfl
theorem sz_63 : szOf Tryd.prog 63 = some 1 := by kernel_rfl
theorem by_63 : byOf Tryd.prog 63 = some 8 := by kernel_rfl
theorem ag_63 : aggOf Tryd.prog 63 = some false := by kernel_rfl
theorem zc_63 : zcOf Tryd.prog 63 = some [.nilFunc] := by kernel_rfl
theorem sz_64 : szOf Tryd.prog 64 = some 7 := by kernel_rfl
theorem by_64 : byOf Tryd.prog 64 = some 56 := by kernel_rfl
theorem ag_64 : aggOf Tryd.prog 64 = some true := by kernel_rfl
theorem zc_64 : zcOf Tryd.prog 64 = some [.int .i64 0, .int .i64 0, .int .i64 0, .int .i64 0, .int .i64 0, .int .i64 0, .int .i64 0] := by kernel_rfl
theorem sa_64 : isAggOf Tryd.prog 64 = true := by kernel_rfl
theorem pl_64 : plOf Tryd.prog 64 = some [(0, 1), (1, 1), (2, 1), (3, 1), (4, 1), (5, 1), (6, 1)] := by kernel_rfl
theorem fo_64_0 : foOf Tryd.prog 64 0 = some 0 := by kernel_rfl
theorem fi_64_0 : fiOf Tryd.prog 64 0 = some (0, 1, false) := by kernel_rfl
theorem fo_64_1 : foOf Tryd.prog 64 1 = some 1 := by kernel_rfl
theorem fi_64_1 : fiOf Tryd.prog 64 1 = some (1, 1, false) := by kernel_rfl
theorem fo_64_2 : foOf Tryd.prog 64 2 = some 2 := by kernel_rfl
theorem fi_64_2 : fiOf Tryd.prog 64 2 = some (2, 1, false) := by kernel_rfl
theorem fo_64_3 : foOf Tryd.prog 64 3 = some 3 := by kernel_rfl
theorem fi_64_3 : fiOf Tryd.prog 64 3 = some (3, 1, false) := by kernel_rfl
theorem fo_64_4 : foOf Tryd.prog 64 4 = some 4 := by kernel_rfl
theorem fi_64_4 : fiOf Tryd.prog 64 4 = some (4, 1, false) := by kernel_rfl
theorem fo_64_5 : foOf Tryd.prog 64 5 = some 5 := by kernel_rfl
theorem fi_64_5 : fiOf Tryd.prog 64 5 = some (5, 1, false) := by kernel_rfl
theorem fo_64_6 : foOf Tryd.prog 64 6 = some 6 := by kernel_rfl
theorem fi_64_6 : fiOf Tryd.prog 64 6 = some (6, 1, false) := by kernel_rfl
theorem sz_65 : szOf Tryd.prog 65 = some 7 := by kernel_rfl
theorem by_65 : byOf Tryd.prog 65 = some 56 := by kernel_rfl
theorem ag_65 : aggOf Tryd.prog 65 = some true := by kernel_rfl
theorem zc_65 : zcOf Tryd.prog 65 = some [.int .i64 0, .int .i64 0, .int .i64 0, .int .i64 0, .int .i64 0, .int .i64 0, .int .i64 0] := by kernel_rfl
theorem sa_65 : isAggOf Tryd.prog 65 = true := by kernel_rfl
theorem pl_65 : plOf Tryd.prog 65 = some [(0, 1), (1, 1), (2, 1), (3, 1), (4, 1), (5, 1), (6, 1)] := by kernel_rfl
theorem fo_65_0 : foOf Tryd.prog 65 0 = some 0 := by kernel_rfl
theorem fi_65_0 : fiOf Tryd.prog 65 0 = some (0, 1, false) := by kernel_rfl
theorem fo_65_1 : foOf Tryd.prog 65 1 = some 1 := by kernel_rfl
theorem fi_65_1 : fiOf Tryd.prog 65 1 = some (1, 1, false) := by kernel_rfl
theorem fo_65_2 : foOf Tryd.prog 65 2 = some 2 := by kernel_rfl
theorem fi_65_2 : fiOf Tryd.prog 65 2 = some (2, 1, false) := by kernel_rfl
theorem fo_65_3 : foOf Tryd.prog 65 3 = some 3 := by kernel_rfl
theorem fi_65_3 : fiOf Tryd.prog 65 3 = some (3, 1, false) := by kernel_rfl
theorem fo_65_4 : foOf Tryd.prog 65 4 = some 4 := by kernel_rfl
theorem fi_65_4 : fiOf Tryd.prog 65 4 = some (4, 1, false) := by kernel_rfl
theorem fo_65_5 : foOf Tryd.prog 65 5 = some 5 := by kernel_rfl
theorem fi_65_5 : fiOf Tryd.prog 65 5 = some (5, 1, false) := by kernel_rfl
theorem fo_65_6 : foOf Tryd.prog 65 6 = some 6 := by kernel_rfl
theorem fi_65_6 : fiOf Tryd.prog 65 6 = some (6, 1, false) := by kernel_rfl
theorem sz_66 : szOf Tryd.prog 66 = some 1 := by kernel_rfl
theorem by_66 : byOf Tryd.prog 66 = some 8 := by kernel_rfl
theorem ag_66 : aggOf Tryd.prog 66 = some false := by kernel_rfl
theorem zc_66 : zcOf Tryd.prog 66 = some [.pointer none] := by kernel_rfl
theorem sz_68 : szOf Tryd.prog 68 = some 1 := by kernel_rfl
theorem by_68 : byOf Tryd.prog 68 = some 8 := by kernel_rfl
theorem ag_68 : aggOf Tryd.prog 68 = some false := by kernel_rfl
theorem zc_68 : zcOf Tryd.prog 68 = some [.nilFunc] := by kernel_rfl
theorem sz_69 : szOf Tryd.prog 69 = some 1 := by kernel_rfl
theorem by_69 : byOf Tryd.prog 69 = some 24 := by kernel_rfl
theorem ag_69 : aggOf Tryd.prog 69 = some false := by kernel_rfl
theorem zc_69 : zcOf Tryd.prog 69 = some [.slice none 0 0] := by kernel_rfl
theorem sz_70 : szOf Tryd.prog 70 = some 3 := by kernel_rfl
theorem by_70 : byOf Tryd.prog 70 = some 56 := by kernel_rfl
theorem ag_70 : aggOf Tryd.prog 70 = some true := by kernel_rfl
theorem zc_70 : zcOf Tryd.prog 70 = some [.slice none 0 0, .slice none 0 0, .int .i64 0] := by kernel_rfl
theorem sa_70 : isAggOf Tryd.prog 70 = true := by kernel_rfl
theorem pl_70 : plOf Tryd.prog 70 = some [(0, 1), (1, 1), (2, 1)] := by kernel_rfl
theorem fo_70_0 : foOf Tryd.prog 70 0 = some 0 := by kernel_rfl
theorem fi_70_0 : fiOf Tryd.prog 70 0 = some (0, 1, false) := by kernel_rfl
theorem fo_70_1 : foOf Tryd.prog 70 1 = some 1 := by kernel_rfl
theorem fi_70_1 : fiOf Tryd.prog 70 1 = some (1, 1, false) := by kernel_rfl
theorem fo_70_2 : foOf Tryd.prog 70 2 = some 2 := by kernel_rfl
theorem fi_70_2 : fiOf Tryd.prog 70 2 = some (2, 1, false) := by kernel_rfl
theorem sz_71 : szOf Tryd.prog 71 = some 3 := by kernel_rfl
theorem by_71 : byOf Tryd.prog 71 = some 56 := by kernel_rfl
theorem ag_71 : aggOf Tryd.prog 71 = some true := by kernel_rfl
theorem zc_71 : zcOf Tryd.prog 71 = some [.slice none 0 0, .slice none 0 0, .int .i64 0] := by kernel_rfl
theorem sa_71 : isAggOf Tryd.prog 71 = true := by kernel_rfl
theorem pl_71 : plOf Tryd.prog 71 = some [(0, 1), (1, 1), (2, 1)] := by kernel_rfl
theorem fo_71_0 : foOf Tryd.prog 71 0 = some 0 := by kernel_rfl
theorem fi_71_0 : fiOf Tryd.prog 71 0 = some (0, 1, false) := by kernel_rfl
theorem fo_71_1 : foOf Tryd.prog 71 1 = some 1 := by kernel_rfl
theorem fi_71_1 : fiOf Tryd.prog 71 1 = some (1, 1, false) := by kernel_rfl
theorem fo_71_2 : foOf Tryd.prog 71 2 = some 2 := by kernel_rfl
theorem fi_71_2 : fiOf Tryd.prog 71 2 = some (2, 1, false) := by kernel_rfl
theorem sz_72 : szOf Tryd.prog 72 = some 10 := by kernel_rfl
theorem by_72 : byOf Tryd.prog 72 = some 80 := by kernel_rfl
theorem ag_72 : aggOf Tryd.prog 72 = some true := by kernel_rfl
theorem zc_72 : zcOf Tryd.prog 72 = some [.int .i64 0, .int .i64 0, .int .i64 0, .int .i64 0, .int .i64 0, .int .i64 0, .int .i64 0, .int .i64 0, .int .i64 0, .int .i64 0] := by kernel_rfl
theorem sa_72 : isAggOf Tryd.prog 72 = true := by kernel_rfl
theorem pl_72 : plOf Tryd.prog 72 = some [(0, 7), (7, 1), (8, 1), (9, 1)] := by kernel_rfl
theorem fo_72_0 : foOf Tryd.prog 72 0 = some 0 := by kernel_rfl
theorem fi_72_0 : fiOf Tryd.prog 72 0 = some (0, 7, true) := by kernel_rfl
theorem fo_72_1 : foOf Tryd.prog 72 1 = some 7 := by kernel_rfl
theorem fi_72_1 : fiOf Tryd.prog 72 1 = some (7, 1, false) := by kernel_rfl
theorem fo_72_2 : foOf Tryd.prog 72 2 = some 8 := by kernel_rfl
theorem fi_72_2 : fiOf Tryd.prog 72 2 = some (8, 1, false) := by kernel_rfl
theorem fo_72_3 : foOf Tryd.prog 72 3 = some 9 := by kernel_rfl
theorem fi_72_3 : fiOf Tryd.prog 72 3 = some (9, 1, false) := by kernel_rfl
theorem sz_73 : szOf Tryd.prog 73 = some 10 := by kernel_rfl
theorem by_73 : byOf Tryd.prog 73 = some 80 := by kernel_rfl
theorem ag_73 : aggOf Tryd.prog 73 = some true := by kernel_rfl
theorem zc_73 : zcOf Tryd.prog 73 = some [.int .i64 0, .int .i64 0, .int .i64 0, .int .i64 0, .int .i64 0, .int .i64 0, .int .i64 0, .int .i64 0, .int .i64 0, .int .i64 0] := by kernel_rfl
theorem sa_73 : isAggOf Tryd.prog 73 = true := by kernel_rfl
theorem pl_73 : plOf Tryd.prog 73 = some [(0, 7), (7, 1), (8, 1), (9, 1)] := by kernel_rfl
theorem fo_73_0 : foOf Tryd.prog 73 0 = some 0 := by kernel_rfl
theorem fi_73_0 : fiOf Tryd.prog 73 0 = some (0, 7, true) := by kernel_rfl
theorem fo_73_1 : foOf Tryd.prog 73 1 = some 7 := by kernel_rfl
theorem fi_73_1 : fiOf Tryd.prog 73 1 = some (7, 1, false) := by kernel_rfl
theorem fo_73_2 : foOf Tryd.prog 73 2 = some 8 := by kernel_rfl
theorem fi_73_2 : fiOf Tryd.prog 73 2 = some (8, 1, false) := by kernel_rfl
theorem fo_73_3 : foOf Tryd.prog 73 3 = some 9 := by kernel_rfl
theorem fi_73_3 : fiOf Tryd.prog 73 3 = some (9, 1, false) := by kernel_rfl
theorem sz_74 : szOf Tryd.prog 74 = some 1 := by kernel_rfl
theorem by_74 : byOf Tryd.prog 74 = some 8 := by kernel_rfl
theorem ag_74 : aggOf Tryd.prog 74 = some false := by kernel_rfl
theorem zc_74 : zcOf Tryd.prog 74 = some [.nilFunc] := by kernel_rfl
theorem sz_75 : szOf Tryd.prog 75 = some 1 := by kernel_rfl
theorem by_75 : byOf Tryd.prog 75 = some 8 := by kernel_rfl
theorem ag_75 : aggOf Tryd.prog 75 = some false := by kernel_rfl
theorem zc_75 : zcOf Tryd.prog 75 = some [.nilFunc] := by kernel_rfl
theorem sz_76 : szOf Tryd.prog 76 = some 1 := by kernel_rfl
theorem by_76 : byOf Tryd.prog 76 = some 8 := by kernel_rfl
theorem ag_76 : aggOf Tryd.prog 76 = some false := by kernel_rfl
theorem zc_76 : zcOf Tryd.prog 76 = some [.nilFunc] := by kernel_rfl
theorem sz_77 : szOf Tryd.prog 77 = some 1 := by kernel_rfl
theorem by_77 : byOf Tryd.prog 77 = some 8 := by kernel_rfl
theorem ag_77 : aggOf Tryd.prog 77 = some false := by kernel_rfl
theorem zc_77 : zcOf Tryd.prog 77 = some [.nilFunc] := by kernel_rfl
theorem sz_78 : szOf Tryd.prog 78 = some 1 := by kernel_rfl
theorem by_78 : byOf Tryd.prog 78 = some 8 := by kernel_rfl
theorem ag_78 : aggOf Tryd.prog 78 = some false := by kernel_rfl
theorem zc_78 : zcOf Tryd.prog 78 = some [.nilFunc] := by kernel_rfl
theorem sz_79 : szOf Tryd.prog 79 = some 1 := by kernel_rfl
theorem by_79 : byOf Tryd.prog 79 = some 8 := by kernel_rfl
theorem ag_79 : aggOf Tryd.prog 79 = some false := by kernel_rfl
theorem zc_79 : zcOf Tryd.prog 79 = some [.nilFunc] := by kernel_rfl
theorem sz_80 : szOf Tryd.prog 80 = some 1 := by kernel_rfl
theorem by_80 : byOf Tryd.prog 80 = some 8 := by kernel_rfl
theorem ag_80 : aggOf Tryd.prog 80 = some false := by kernel_rfl
theorem zc_80 : zcOf Tryd.prog 80 = some [.nilFunc] := by kernel_rfl
theorem sz_81 : szOf Tryd.prog 81 = some 1 := by kernel_rfl
theorem by_81 : byOf Tryd.prog 81 = some 8 := by kernel_rfl
theorem ag_81 : aggOf Tryd.prog 81 = some false := by kernel_rfl
theorem zc_81 : zcOf Tryd.prog 81 = some [.nilFunc] := by kernel_rfl
theorem sz_82 : szOf Tryd.prog 82 = some 1 := by kernel_rfl
theorem by_82 : byOf Tryd.prog 82 = some 8 := by kernel_rfl
theorem ag_82 : aggOf Tryd.prog 82 = some false := by kernel_rfl
theorem zc_82 : zcOf Tryd.prog 82 = some [.nilFunc] := by kernel_rfl
theorem sz_83 : szOf Tryd.prog 83 = some 1 := by kernel_rfl
theorem by_83 : byOf Tryd.prog 83 = some 8 := by kernel_rfl
theorem ag_83 : aggOf Tryd.prog 83 = some false := by kernel_rfl
theorem zc_83 : zcOf Tryd.prog 83 = some [.nilFunc] := by kernel_rfl
theorem sz_84 : szOf Tryd.prog 84 = some 1 := by kernel_rfl
theorem by_84 : byOf Tryd.prog 84 = some 8 := by kernel_rfl
theorem ag_84 : aggOf Tryd.prog 84 = some false := by kernel_rfl
theorem zc_84 : zcOf Tryd.prog 84 = some [.nilFunc] := by kernel_rfl
theorem sz_85 : szOf Tryd.prog 85 = some 2 := by kernel_rfl
theorem by_85 : byOf Tryd.prog 85 = some 16 := by kernel_rfl
theorem ag_85 : aggOf Tryd.prog 85 = some true := by kernel_rfl
theorem zc_85 : zcOf Tryd.prog 85 = some [.int .i64 0, .int .i64 0] := by kernel_rfl
theorem sa_85 : isAggOf Tryd.prog 85 = true := by kernel_rfl
theorem pl_85 : plOf Tryd.prog 85 = some [(0, 1), (1, 1)] := by kernel_rfl
theorem fo_85_0 : foOf Tryd.prog 85 0 = some 0 := by kernel_rfl
theorem fi_85_0 : fiOf Tryd.prog 85 0 = some (0, 1, false) := by kernel_rfl
theorem fo_85_1 : foOf Tryd.prog 85 1 = some 1 := by kernel_rfl
theorem fi_85_1 : fiOf Tryd.prog 85 1 = some (1, 1, false) := by kernel_rfl
theorem sz_86 : szOf Tryd.prog 86 = some 2 := by kernel_rfl
theorem by_86 : byOf Tryd.prog 86 = some 16 := by kernel_rfl
theorem ag_86 : aggOf Tryd.prog 86 = some true := by kernel_rfl
theorem zc_86 : zcOf Tryd.prog 86 = some [.int .i64 0, .int .i64 0] := by kernel_rfl
theorem sa_86 : isAggOf Tryd.prog 86 = true := by kernel_rfl
theorem pl_86 : plOf Tryd.prog 86 = some [(0, 1), (1, 1)] := by kernel_rfl
theorem fo_86_0 : foOf Tryd.prog 86 0 = some 0 := by kernel_rfl
theorem fi_86_0 : fiOf Tryd.prog 86 0 = some (0, 1, false) := by kernel_rfl
theorem fo_86_1 : foOf Tryd.prog 86 1 = some 1 := by kernel_rfl
theorem fi_86_1 : fiOf Tryd.prog 86 1 = some (1, 1, false) := by kernel_rfl
theorem sz_87 : szOf Tryd.prog 87 = some 1 := by kernel_rfl
theorem by_87 : byOf Tryd.prog 87 = some 8 := by kernel_rfl
theorem ag_87 : aggOf Tryd.prog 87 = some false := by kernel_rfl
theorem zc_87 : zcOf Tryd.prog 87 = some [.nilFunc] := by kernel_rfl
theorem sz_88 : szOf Tryd.prog 88 = some 1 := by kernel_rfl
theorem by_88 : byOf Tryd.prog 88 = some 8 := by kernel_rfl
theorem ag_88 : aggOf Tryd.prog 88 = some false := by kernel_rfl
theorem zc_88 : zcOf Tryd.prog 88 = some [.nilFunc] := by kernel_rfl
theorem sz_89 : szOf Tryd.prog 89 = some 1 := by kernel_rfl
theorem by_89 : byOf Tryd.prog 89 = some 8 := by kernel_rfl
theorem ag_89 : aggOf Tryd.prog 89 = some false := by kernel_rfl
theorem zc_89 : zcOf Tryd.prog 89 = some [.nilFunc] := by kernel_rfl
theorem sz_90 : szOf Tryd.prog 90 = some 1 := by kernel_rfl
theorem by_90 : byOf Tryd.prog 90 = some 8 := by kernel_rfl
theorem ag_90 : aggOf Tryd.prog 90 = some false := by kernel_rfl
theorem zc_90 : zcOf Tryd.prog 90 = some [.pointer none] := by kernel_rfl
theorem sz_91 : szOf Tryd.prog 91 = some 1 := by kernel_rfl
theorem by_91 : byOf Tryd.prog 91 = some 8 := by kernel_rfl
theorem ag_91 : aggOf Tryd.prog 91 = some false := by kernel_rfl
theorem zc_91 : zcOf Tryd.prog 91 = some [.map none] := by kernel_rfl
theorem sz_92 : szOf Tryd.prog 92 = some 1 := by kernel_rfl
theorem by_92 : byOf Tryd.prog 92 = some 8 := by kernel_rfl
theorem ag_92 : aggOf Tryd.prog 92 = some false := by kernel_rfl
theorem zc_92 : zcOf Tryd.prog 92 = some [.nilFunc] := by kernel_rfl
theorem sz_93 : szOf Tryd.prog 93 = some 256 := by kernel_rfl
theorem by_93 : byOf Tryd.prog 93 = some 256 := by kernel_rfl
theorem ag_93 : aggOf Tryd.prog 93 = some true := by kernel_rfl
theorem sz_94 : szOf Tryd.prog 94 = some 256 := by kernel_rfl
theorem by_94 : byOf Tryd.prog 94 = some 256 := by kernel_rfl
theorem ag_94 : aggOf Tryd.prog 94 = some true := by kernel_rfl
theorem sz_96 : szOf Tryd.prog 96 = some 1 := by kernel_rfl
theorem by_96 : byOf Tryd.prog 96 = some 8 := by kernel_rfl
theorem ag_96 : aggOf Tryd.prog 96 = some false := by kernel_rfl
theorem zc_96 : zcOf Tryd.prog 96 = some [.nilFunc] := by kernel_rfl
theorem sz_97 : szOf Tryd.prog 97 = some 1 := by kernel_rfl
theorem by_97 : byOf Tryd.prog 97 = some 8 := by kernel_rfl
theorem ag_97 : aggOf Tryd.prog 97 = some false := by kernel_rfl
theorem zc_97 : zcOf Tryd.prog 97 = some [.nilFunc] := by kernel_rfl
theorem sz_98 : szOf Tryd.prog 98 = some 1 := by kernel_rfl
theorem by_98 : byOf Tryd.prog 98 = some 8 := by kernel_rfl
theorem ag_98 : aggOf Tryd.prog 98 = some false := by kernel_rfl
theorem zc_98 : zcOf Tryd.prog 98 = some [.pointer none] := by kernel_rfl
theorem sz_99 : szOf Tryd.prog 99 = some 1 := by kernel_rfl
theorem by_99 : byOf Tryd.prog 99 = some 8 := by kernel_rfl
theorem ag_99 : aggOf Tryd.prog 99 = some false := by kernel_rfl
theorem zc_99 : zcOf Tryd.prog 99 = some [.nilFunc] := by kernel_rfl
theorem sz_101 : szOf Tryd.prog 101 = some 1 := by kernel_rfl
theorem by_101 : byOf Tryd.prog 101 = some 8 := by kernel_rfl
theorem ag_101 : aggOf Tryd.prog 101 = some false := by kernel_rfl
theorem zc_101 : zcOf Tryd.prog 101 = some [.nilFunc] := by kernel_rfl
theorem sz_102 : szOf Tryd.prog 102 = some 1 := by kernel_rfl
theorem by_102 : byOf Tryd.prog 102 = some 8 := by kernel_rfl
theorem ag_102 : aggOf Tryd.prog 102 = some false := by kernel_rfl
theorem zc_102 : zcOf Tryd.prog 102 = some [.nilFunc] := by kernel_rfl
theorem sz_103 : szOf Tryd.prog 103 = some 1 := by kernel_rfl
theorem by_103 : byOf Tryd.prog 103 = some 8 := by kernel_rfl
theorem ag_103 : aggOf Tryd.prog 103 = some false := by kernel_rfl
theorem zc_103 : zcOf Tryd.prog 103 = some [.nilFunc] := by kernel_rfl
theorem sz_104 : szOf Tryd.prog 104 = some 256 := by kernel_rfl
theorem by_104 : byOf Tryd.prog 104 = some 256 := by kernel_rfl
theorem ag_104 : aggOf Tryd.prog 104 = some true := by kernel_rfl
theorem sz_105 : szOf Tryd.prog 105 = some 2 := by kernel_rfl
theorem by_105 : byOf Tryd.prog 105 = some 2 := by kernel_rfl
theorem ag_105 : aggOf Tryd.prog 105 = some true := by kernel_rfl
theorem zc_105 : zcOf Tryd.prog 105 = some [.int .u8 0, .int .u8 0] := by kernel_rfl
theorem sa_105 : isAggOf Tryd.prog 105 = true := by kernel_rfl
theorem pl_105 : plOf Tryd.prog 105 = some [(0, 1), (1, 1)] := by kernel_rfl
theorem fo_105_0 : foOf Tryd.prog 105 0 = some 0 := by kernel_rfl
theorem fi_105_0 : fiOf Tryd.prog 105 0 = some (0, 1, false) := by kernel_rfl
theorem fo_105_1 : foOf Tryd.prog 105 1 = some 1 := by kernel_rfl
theorem fi_105_1 : fiOf Tryd.prog 105 1 = some (1, 1, false) := by kernel_rfl
theorem sz_106 : szOf Tryd.prog 106 = some 2 := by kernel_rfl
theorem by_106 : byOf Tryd.prog 106 = some 2 := by kernel_rfl
theorem ag_106 : aggOf Tryd.prog 106 = some true := by kernel_rfl
theorem zc_106 : zcOf Tryd.prog 106 = some [.int .u8 0, .int .u8 0] := by kernel_rfl
theorem sa_106 : isAggOf Tryd.prog 106 = true := by kernel_rfl
theorem pl_106 : plOf Tryd.prog 106 = some [(0, 1), (1, 1)] := by kernel_rfl
theorem fo_106_0 : foOf Tryd.prog 106 0 = some 0 := by kernel_rfl
theorem fi_106_0 : fiOf Tryd.prog 106 0 = some (0, 1, false) := by kernel_rfl
theorem fo_106_1 : foOf Tryd.prog 106 1 = some 1 := by kernel_rfl
theorem fi_106_1 : fiOf Tryd.prog 106 1 = some (1, 1, false) := by kernel_rfl
theorem sz_107 : szOf Tryd.prog 107 = some 32 := by kernel_rfl
theorem by_107 : byOf Tryd.prog 107 = some 32 := by kernel_rfl
theorem ag_107 : aggOf Tryd.prog 107 = some true := by kernel_rfl
theorem zc_107 : zcOf Tryd.prog 107 = some [.int .u8 0, .int .u8 0, .int .u8 0, .int .u8 0, .int .u8 0, .int .u8 0, .int .u8 0, .int .u8 0, .int .u8 0, .int .u8 0, .int .u8 0, .int .u8 0, .int .u8 0, .int .u8 0, .int .u8 0, .int .u8 0, .int .u8 0, .int .u8 0, .int .u8 0, .int .u8 0, .int .u8 0, .int .u8 0, .int .u8 0, .int .u8 0, .int .u8 0, .int .u8 0, .int .u8 0, .int .u8 0, .int .u8 0, .int .u8 0, .int .u8 0, .int .u8 0] := by kernel_rfl
theorem sa_107 : isAggOf Tryd.prog 107 = true := by kernel_rfl
theorem pl_107 : plOf Tryd.prog 107 = some [(0, 2), (2, 2), (4, 2), (6, 2), (8, 2), (10, 2), (12, 2), (14, 2), (16, 2), (18, 2), (20, 2), (22, 2), (24, 2), (26, 2), (28, 2), (30, 2)] := by kernel_rfl
theorem sz_108 : szOf Tryd.prog 108 = some 1 := by kernel_rfl
theorem by_108 : byOf Tryd.prog 108 = some 8 := by kernel_rfl
theorem ag_108 : aggOf Tryd.prog 108 = some false := by kernel_rfl
theorem zc_108 : zcOf Tryd.prog 108 = some [.nilFunc] := by kernel_rfl
theorem sz_109 : szOf Tryd.prog 109 = some 1 := by kernel_rfl
theorem by_109 : byOf Tryd.prog 109 = some 8 := by kernel_rfl
theorem ag_109 : aggOf Tryd.prog 109 = some false := by kernel_rfl
theorem zc_109 : zcOf Tryd.prog 109 = some [.nilFunc] := by kernel_rfl
theorem sz_110 : szOf Tryd.prog 110 = some 1 := by kernel_rfl
theorem by_110 : byOf Tryd.prog 110 = some 8 := by kernel_rfl
theorem ag_110 : aggOf Tryd.prog 110 = some false := by kernel_rfl
theorem zc_110 : zcOf Tryd.prog 110 = some [.nilFunc] := by kernel_rfl
theorem sz_111 : szOf Tryd.prog 111 = some 1 := by kernel_rfl
theorem by_111 : byOf Tryd.prog 111 = some 8 := by kernel_rfl
theorem ag_111 : aggOf Tryd.prog 111 = some false := by kernel_rfl
theorem zc_111 : zcOf Tryd.prog 111 = some [.nilFunc] := by kernel_rfl
theorem sz_112 : szOf Tryd.prog 112 = some 1 := by kernel_rfl
theorem by_112 : byOf Tryd.prog 112 = some 8 := by kernel_rfl
theorem ag_112 : aggOf Tryd.prog 112 = some false := by kernel_rfl
theorem zc_112 : zcOf Tryd.prog 112 = some [.nilFunc] := by kernel_rfl
theorem sz_113 : szOf Tryd.prog 113 = some 4 := by kernel_rfl
theorem by_113 : byOf Tryd.prog 113 = some 40 := by kernel_rfl
theorem ag_113 : aggOf Tryd.prog 113 = some true := by kernel_rfl
theorem zc_113 : zcOf Tryd.prog 113 = some [.pointer none, .pointer none, .pointer none, .string .empty] := by kernel_rfl
theorem sa_113 : isAggOf Tryd.prog 113 = true := by kernel_rfl
theorem pl_113 : plOf Tryd.prog 113 = some [(0, 1), (1, 1), (2, 1), (3, 1)] := by kernel_rfl
theorem fo_113_0 : foOf Tryd.prog 113 0 = some 0 := by kernel_rfl
theorem fi_113_0 : fiOf Tryd.prog 113 0 = some (0, 1, false) := by kernel_rfl
theorem fo_113_1 : foOf Tryd.prog 113 1 = some 1 := by kernel_rfl
theorem fi_113_1 : fiOf Tryd.prog 113 1 = some (1, 1, false) := by kernel_rfl
theorem fo_113_2 : foOf Tryd.prog 113 2 = some 2 := by kernel_rfl
theorem fi_113_2 : fiOf Tryd.prog 113 2 = some (2, 1, false) := by kernel_rfl
theorem fo_113_3 : foOf Tryd.prog 113 3 = some 3 := by kernel_rfl
theorem fi_113_3 : fiOf Tryd.prog 113 3 = some (3, 1, false) := by kernel_rfl
theorem sz_114 : szOf Tryd.prog 114 = some 4 := by kernel_rfl
theorem by_114 : byOf Tryd.prog 114 = some 40 := by kernel_rfl
theorem ag_114 : aggOf Tryd.prog 114 = some true := by kernel_rfl
theorem zc_114 : zcOf Tryd.prog 114 = some [.pointer none, .pointer none, .pointer none, .string .empty] := by kernel_rfl
theorem sa_114 : isAggOf Tryd.prog 114 = true := by kernel_rfl
theorem pl_114 : plOf Tryd.prog 114 = some [(0, 1), (1, 1), (2, 1), (3, 1)] := by kernel_rfl
theorem fo_114_0 : foOf Tryd.prog 114 0 = some 0 := by kernel_rfl
theorem fi_114_0 : fiOf Tryd.prog 114 0 = some (0, 1, false) := by kernel_rfl
theorem fo_114_1 : foOf Tryd.prog 114 1 = some 1 := by kernel_rfl
theorem fi_114_1 : fiOf Tryd.prog 114 1 = some (1, 1, false) := by kernel_rfl
theorem fo_114_2 : foOf Tryd.prog 114 2 = some 2 := by kernel_rfl
theorem fi_114_2 : fiOf Tryd.prog 114 2 = some (2, 1, false) := by kernel_rfl
theorem fo_114_3 : foOf Tryd.prog 114 3 = some 3 := by kernel_rfl
theorem fi_114_3 : fiOf Tryd.prog 114 3 = some (3, 1, false) := by kernel_rfl
theorem sz_115 : szOf Tryd.prog 115 = some 0 := by kernel_rfl
theorem by_115 : byOf Tryd.prog 115 = some 0 := by kernel_rfl
theorem ag_115 : aggOf Tryd.prog 115 = some true := by kernel_rfl
theorem zc_115 : zcOf Tryd.prog 115 = some [] := by kernel_rfl
theorem sa_115 : isAggOf Tryd.prog 115 = true := by kernel_rfl
theorem pl_115 : plOf Tryd.prog 115 = some [] := by kernel_rfl
theorem sz_116 : szOf Tryd.prog 116 = some 0 := by kernel_rfl
theorem by_116 : byOf Tryd.prog 116 = some 0 := by kernel_rfl
theorem ag_116 : aggOf Tryd.prog 116 = some true := by kernel_rfl
theorem zc_116 : zcOf Tryd.prog 116 = some [] := by kernel_rfl
theorem sa_116 : isAggOf Tryd.prog 116 = true := by kernel_rfl
theorem pl_116 : plOf Tryd.prog 116 = some [(0, 0)] := by kernel_rfl
theorem fi_116_0 : fiOf Tryd.prog 116 0 = some (0, 0, true) := by kernel_rfl
theorem sz_117 : szOf Tryd.prog 117 = some 0 := by kernel_rfl
theorem by_117 : byOf Tryd.prog 117 = some 0 := by kernel_rfl
theorem ag_117 : aggOf Tryd.prog 117 = some true := by kernel_rfl
theorem zc_117 : zcOf Tryd.prog 117 = some [] := by kernel_rfl
theorem sa_117 : isAggOf Tryd.prog 117 = true := by kernel_rfl
theorem pl_117 : plOf Tryd.prog 117 = some [(0, 0)] := by kernel_rfl
theorem fi_117_0 : fiOf Tryd.prog 117 0 = some (0, 0, true) := by kernel_rfl
theorem sz_118 : szOf Tryd.prog 118 = some 1 := by kernel_rfl
theorem by_118 : byOf Tryd.prog 118 = some 8 := by kernel_rfl
theorem ag_118 : aggOf Tryd.prog 118 = some false := by kernel_rfl
theorem zc_118 : zcOf Tryd.prog 118 = some [.nilFunc] := by kernel_rfl
theorem sz_119 : szOf Tryd.prog 119 = some 1 := by kernel_rfl
theorem by_119 : byOf Tryd.prog 119 = some 1 := by kernel_rfl
theorem ag_119 : aggOf Tryd.prog 119 = some false := by kernel_rfl
theorem zc_119 : zcOf Tryd.prog 119 = some [.int .u8 0] := by kernel_rfl
theorem zv_119 : (Tryd.prog.info? 119).bind (·.zero) = some (.int .u8 0) := by kernel_rfl
theorem sz_120 : szOf Tryd.prog 120 = some 1 := by kernel_rfl
theorem by_120 : byOf Tryd.prog 120 = some 1 := by kernel_rfl
theorem ag_120 : aggOf Tryd.prog 120 = some false := by kernel_rfl
theorem zc_120 : zcOf Tryd.prog 120 = some [.int .u8 0] := by kernel_rfl
theorem zv_120 : (Tryd.prog.info? 120).bind (·.zero) = some (.int .u8 0) := by kernel_rfl
theorem sz_121 : szOf Tryd.prog 121 = some 1 := by kernel_rfl
theorem by_121 : byOf Tryd.prog 121 = some 8 := by kernel_rfl
theorem ag_121 : aggOf Tryd.prog 121 = some false := by kernel_rfl
theorem zc_121 : zcOf Tryd.prog 121 = some [.nilFunc] := by kernel_rfl
theorem sz_122 : szOf Tryd.prog 122 = some 1 := by kernel_rfl
theorem by_122 : byOf Tryd.prog 122 = some 8 := by kernel_rfl
theorem ag_122 : aggOf Tryd.prog 122 = some false := by kernel_rfl
theorem zc_122 : zcOf Tryd.prog 122 = some [.pointer none] := by kernel_rfl
theorem sz_123 : szOf Tryd.prog 123 = some 1 := by kernel_rfl
theorem by_123 : byOf Tryd.prog 123 = some 4 := by kernel_rfl
theorem ag_123 : aggOf Tryd.prog 123 = some false := by kernel_rfl
theorem zc_123 : zcOf Tryd.prog 123 = some [.int .i32 0] := by kernel_rfl
theorem zv_123 : (Tryd.prog.info? 123).bind (·.zero) = some (.int .i32 0) := by kernel_rfl
theorem sz_124 : szOf Tryd.prog 124 = some 1 := by kernel_rfl
theorem by_124 : byOf Tryd.prog 124 = some 4 := by kernel_rfl
theorem ag_124 : aggOf Tryd.prog 124 = some false := by kernel_rfl
theorem zc_124 : zcOf Tryd.prog 124 = some [.int .i32 0] := by kernel_rfl
theorem zv_124 : (Tryd.prog.info? 124).bind (·.zero) = some (.int .i32 0) := by kernel_rfl
theorem sz_125 : szOf Tryd.prog 125 = some 11 := by kernel_rfl
theorem by_125 : byOf Tryd.prog 125 = some 48 := by kernel_rfl
theorem ag_125 : aggOf Tryd.prog 125 = some true := by kernel_rfl
theorem zc_125 : zcOf Tryd.prog 125 = some [.int .u64 0, .int .u64 0, .int .u32 0, .int .u8 0, .int .u8 0, .int .u8 0, .int .u8 0, .nilFunc, .pointer none, .int .i32 0, .int .i32 0] := by kernel_rfl
theorem sa_125 : isAggOf Tryd.prog 125 = true := by kernel_rfl
theorem pl_125 : plOf Tryd.prog 125 = some [(0, 1), (1, 1), (2, 1), (3, 1), (4, 1), (5, 1), (6, 1), (7, 1), (8, 1), (9, 1), (10, 1)] := by kernel_rfl
theorem fo_125_0 : foOf Tryd.prog 125 0 = some 0 := by kernel_rfl
theorem fi_125_0 : fiOf Tryd.prog 125 0 = some (0, 1, false) := by kernel_rfl
theorem fo_125_1 : foOf Tryd.prog 125 1 = some 1 := by kernel_rfl
theorem fi_125_1 : fiOf Tryd.prog 125 1 = some (1, 1, false) := by kernel_rfl
theorem fo_125_2 : foOf Tryd.prog 125 2 = some 2 := by kernel_rfl
theorem fi_125_2 : fiOf Tryd.prog 125 2 = some (2, 1, false) := by kernel_rfl
theorem fo_125_3 : foOf Tryd.prog 125 3 = some 3 := by kernel_rfl
theorem fi_125_3 : fiOf Tryd.prog 125 3 = some (3, 1, false) := by kernel_rfl
theorem fo_125_4 : foOf Tryd.prog 125 4 = some 4 := by kernel_rfl
theorem fi_125_4 : fiOf Tryd.prog 125 4 = some (4, 1, false) := by kernel_rfl
theorem fo_125_5 : foOf Tryd.prog 125 5 = some 5 := by kernel_rfl
theorem fi_125_5 : fiOf Tryd.prog 125 5 = some (5, 1, false) := by kernel_rfl
theorem fo_125_6 : foOf Tryd.prog 125 6 = some 6 := by kernel_rfl
theorem fi_125_6 : fiOf Tryd.prog 125 6 = some (6, 1, false) := by kernel_rfl
theorem fo_125_7 : foOf Tryd.prog 125 7 = some 7 := by kernel_rfl
theorem fi_125_7 : fiOf Tryd.prog 125 7 = some (7, 1, false) := by kernel_rfl
theorem fo_125_8 : foOf Tryd.prog 125 8 = some 8 := by kernel_rfl
theorem fi_125_8 : fiOf Tryd.prog 125 8 = some (8, 1, false) := by kernel_rfl
theorem fo_125_9 : foOf Tryd.prog 125 9 = some 9 := by kernel_rfl
theorem fi_125_9 : fiOf Tryd.prog 125 9 = some (9, 1, false) := by kernel_rfl
theorem fo_125_10 : foOf Tryd.prog 125 10 = some 10 := by kernel_rfl
theorem fi_125_10 : fiOf Tryd.prog 125 10 = some (10, 1, false) := by kernel_rfl
theorem sz_126 : szOf Tryd.prog 126 = some 11 := by kernel_rfl
theorem by_126 : byOf Tryd.prog 126 = some 48 := by kernel_rfl
theorem ag_126 : aggOf Tryd.prog 126 = some true := by kernel_rfl
theorem zc_126 : zcOf Tryd.prog 126 = some [.int .u64 0, .int .u64 0, .int .u32 0, .int .u8 0, .int .u8 0, .int .u8 0, .int .u8 0, .nilFunc, .pointer none, .int .i32 0, .int .i32 0] := by kernel_rfl
theorem sa_126 : isAggOf Tryd.prog 126 = true := by kernel_rfl
theorem pl_126 : plOf Tryd.prog 126 = some [(0, 1), (1, 1), (2, 1), (3, 1), (4, 1), (5, 1), (6, 1), (7, 1), (8, 1), (9, 1), (10, 1)] := by kernel_rfl
theorem fo_126_0 : foOf Tryd.prog 126 0 = some 0 := by kernel_rfl
theorem fi_126_0 : fiOf Tryd.prog 126 0 = some (0, 1, false) := by kernel_rfl
theorem fo_126_1 : foOf Tryd.prog 126 1 = some 1 := by kernel_rfl
theorem fi_126_1 : fiOf Tryd.prog 126 1 = some (1, 1, false) := by kernel_rfl
theorem fo_126_2 : foOf Tryd.prog 126 2 = some 2 := by kernel_rfl
theorem fi_126_2 : fiOf Tryd.prog 126 2 = some (2, 1, false) := by kernel_rfl
theorem fo_126_3 : foOf Tryd.prog 126 3 = some 3 := by kernel_rfl
theorem fi_126_3 : fiOf Tryd.prog 126 3 = some (3, 1, false) := by kernel_rfl
theorem fo_126_4 : foOf Tryd.prog 126 4 = some 4 := by kernel_rfl
theorem fi_126_4 : fiOf Tryd.prog 126 4 = some (4, 1, false) := by kernel_rfl
theorem fo_126_5 : foOf Tryd.prog 126 5 = some 5 := by kernel_rfl
theorem fi_126_5 : fiOf Tryd.prog 126 5 = some (5, 1, false) := by kernel_rfl
theorem fo_126_6 : foOf Tryd.prog 126 6 = some 6 := by kernel_rfl
theorem fi_126_6 : fiOf Tryd.prog 126 6 = some (6, 1, false) := by kernel_rfl
theorem fo_126_7 : foOf Tryd.prog 126 7 = some 7 := by kernel_rfl
theorem fi_126_7 : fiOf Tryd.prog 126 7 = some (7, 1, false) := by kernel_rfl
theorem fo_126_8 : foOf Tryd.prog 126 8 = some 8 := by kernel_rfl
theorem fi_126_8 : fiOf Tryd.prog 126 8 = some (8, 1, false) := by kernel_rfl
theorem fo_126_9 : foOf Tryd.prog 126 9 = some 9 := by kernel_rfl
theorem fi_126_9 : fiOf Tryd.prog 126 9 = some (9, 1, false) := by kernel_rfl
theorem fo_126_10 : foOf Tryd.prog 126 10 = some 10 := by kernel_rfl
theorem fi_126_10 : fiOf Tryd.prog 126 10 = some (10, 1, false) := by kernel_rfl
theorem sz_127 : szOf Tryd.prog 127 = some 1 := by kernel_rfl
theorem by_127 : byOf Tryd.prog 127 = some 8 := by kernel_rfl
theorem ag_127 : aggOf Tryd.prog 127 = some false := by kernel_rfl
theorem zc_127 : zcOf Tryd.prog 127 = some [.nilFunc] := by kernel_rfl
theorem sz_128 : szOf Tryd.prog 128 = some 1 := by kernel_rfl
theorem by_128 : byOf Tryd.prog 128 = some 8 := by kernel_rfl
theorem ag_128 : aggOf Tryd.prog 128 = some false := by kernel_rfl
theorem zc_128 : zcOf Tryd.prog 128 = some [.pointer none] := by kernel_rfl
theorem sz_129 : szOf Tryd.prog 129 = some 1 := by kernel_rfl
theorem by_129 : byOf Tryd.prog 129 = some 8 := by kernel_rfl
theorem ag_129 : aggOf Tryd.prog 129 = some false := by kernel_rfl
theorem zc_129 : zcOf Tryd.prog 129 = some [.nilFunc] := by kernel_rfl
theorem sz_130 : szOf Tryd.prog 130 = some 1 := by kernel_rfl
theorem by_130 : byOf Tryd.prog 130 = some 8 := by kernel_rfl
theorem ag_130 : aggOf Tryd.prog 130 = some false := by kernel_rfl
theorem zc_130 : zcOf Tryd.prog 130 = some [.nilFunc] := by kernel_rfl
theorem sz_131 : szOf Tryd.prog 131 = some 1 := by kernel_rfl
theorem by_131 : byOf Tryd.prog 131 = some 8 := by kernel_rfl
theorem ag_131 : aggOf Tryd.prog 131 = some false := by kernel_rfl
theorem zc_131 : zcOf Tryd.prog 131 = some [.nilFunc] := by kernel_rfl
theorem rn_2 : runs Tryd.prog 2 = true := by kernel_rfl
theorem rn_3 : runs Tryd.prog 3 = true := by kernel_rfl
theorem rn_4 : runs Tryd.prog 4 = true := by kernel_rfl
theorem rn_5 : runs Tryd.prog 5 = true := by kernel_rfl
theorem rn_6 : runs Tryd.prog 6 = true := by kernel_rfl
theorem rn_7 : runs Tryd.prog 7 = true := by kernel_rfl
theorem rn_8 : runs Tryd.prog 8 = true := by kernel_rfl
theorem rn_9 : runs Tryd.prog 9 = true := by kernel_rfl
theorem rn_10 : runs Tryd.prog 10 = true := by kernel_rfl
theorem rn_11 : runs Tryd.prog 11 = true := by kernel_rfl
theorem rn_12 : runs Tryd.prog 12 = true := by kernel_rfl
theorem rn_13 : runs Tryd.prog 13 = true := by kernel_rfl
theorem rn_14 : runs Tryd.prog 14 = true := by kernel_rfl
theorem rn_15 : runs Tryd.prog 15 = true := by kernel_rfl
theorem rn_16 : runs Tryd.prog 16 = true := by kernel_rfl
theorem rn_17 : runs Tryd.prog 17 = true := by kernel_rfl
theorem rn_18 : runs Tryd.prog 18 = true := by kernel_rfl
theorem rn_19 : runs Tryd.prog 19 = true := by kernel_rfl
theorem rn_20 : runs Tryd.prog 20 = true := by kernel_rfl
theorem rn_21 : runs Tryd.prog 21 = true := by kernel_rfl
theorem rn_22 : runs Tryd.prog 22 = true := by kernel_rfl
theorem rn_23 : runs Tryd.prog 23 = true := by kernel_rfl
theorem rn_24 : runs Tryd.prog 24 = true := by kernel_rfl
theorem rn_25 : runs Tryd.prog 25 = true := by kernel_rfl
theorem rn_26 : runs Tryd.prog 26 = true := by kernel_rfl
theorem rn_27 : runs Tryd.prog 27 = true := by kernel_rfl
theorem rn_28 : runs Tryd.prog 28 = true := by kernel_rfl
theorem rn_29 : runs Tryd.prog 29 = true := by kernel_rfl
theorem rn_30 : runs Tryd.prog 30 = true := by kernel_rfl
theorem rn_31 : runs Tryd.prog 31 = true := by kernel_rfl
theorem rn_32 : runs Tryd.prog 32 = true := by kernel_rfl
theorem rn_33 : runs Tryd.prog 33 = true := by kernel_rfl
theorem rn_34 : runs Tryd.prog 34 = true := by kernel_rfl
theorem rn_35 : runs Tryd.prog 35 = true := by kernel_rfl
theorem rn_36 : runs Tryd.prog 36 = true := by kernel_rfl
theorem rn_37 : runs Tryd.prog 37 = true := by kernel_rfl
theorem rn_38 : runs Tryd.prog 38 = true := by kernel_rfl
theorem rn_39 : runs Tryd.prog 39 = true := by kernel_rfl
theorem rn_40 : runs Tryd.prog 40 = true := by kernel_rfl
theorem rn_41 : runs Tryd.prog 41 = true := by kernel_rfl
theorem rn_42 : runs Tryd.prog 42 = true := by kernel_rfl
theorem rn_43 : runs Tryd.prog 43 = true := by kernel_rfl
theorem rn_44 : runs Tryd.prog 44 = true := by kernel_rfl
theorem rn_45 : runs Tryd.prog 45 = true := by kernel_rfl
theorem rn_46 : runs Tryd.prog 46 = true := by kernel_rfl
theorem rn_47 : runs Tryd.prog 47 = true := by kernel_rfl
theorem rn_48 : runs Tryd.prog 48 = true := by kernel_rfl
theorem rn_49 : runs Tryd.prog 49 = true := by kernel_rfl
theorem rn_50 : runs Tryd.prog 50 = true := by kernel_rfl
theorem rn_51 : runs Tryd.prog 51 = true := by kernel_rfl
theorem rn_52 : runs Tryd.prog 52 = true := by kernel_rfl
theorem rn_53 : runs Tryd.prog 53 = true := by kernel_rfl
theorem rn_54 : runs Tryd.prog 54 = true := by kernel_rfl
theorem rn_55 : runs Tryd.prog 55 = true := by kernel_rfl
theorem rn_56 : runs Tryd.prog 56 = true := by kernel_rfl
theorem rn_57 : runs Tryd.prog 57 = true := by kernel_rfl
theorem rn_58 : runs Tryd.prog 58 = true := by kernel_rfl
theorem rn_59 : runs Tryd.prog 59 = true := by kernel_rfl
theorem rn_61 : runs Tryd.prog 61 = true := by kernel_rfl
theorem rn_84 : runs Tryd.prog 84 = true := by kernel_rfl
theorem hm : Tryd.prog.follows .mixedOrders = true := by kernel_rfl
end Go.Proofs.YtdcjgjopmicidaaDoor
