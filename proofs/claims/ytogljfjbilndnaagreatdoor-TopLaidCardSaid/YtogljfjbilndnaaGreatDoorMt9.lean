/- Texts of this proof, one behind the other: Fa, Tq1, Tq2, Tq3, Tq4, Tf1. -/
import Derived.Test.YtogljfjbilndnaaGreatDoorMt4
import Derived.Test.YtogljfjbilndnaaGreatDoorProg
import Derived.Test.YtogljfjbilndnaaGreatDoorMt7
import Derived.Test.YtogljfjbilndnaaGreatDoorMt8
/- The program's tables, asked once. -/
namespace Go.Proofs.YtogljfjbilndnaaGreatDoor
open Go.Sx Go.Proofs
theorem sz_1 : szOf Tryz.prog 1 = some 1 := by kernel_rfl
theorem by_1 : byOf Tryz.prog 1 = some 8 := by kernel_rfl
theorem ag_1 : aggOf Tryz.prog 1 = some false := by kernel_rfl
theorem zc_1 : zcOf Tryz.prog 1 = some [.nilFunc] := by kernel_rfl
theorem sz_2 : szOf Tryz.prog 2 = some 1 := by kernel_rfl
theorem by_2 : byOf Tryz.prog 2 = some 8 := by kernel_rfl
theorem ag_2 : aggOf Tryz.prog 2 = some false := by kernel_rfl
theorem zc_2 : zcOf Tryz.prog 2 = some [.int .i64 0] := by kernel_rfl
theorem zv_2 : (Tryz.prog.info? 2).bind (·.zero) = some (.int .i64 0) := by kernel_rfl
theorem sz_3 : szOf Tryz.prog 3 = some 1 := by kernel_rfl
theorem by_3 : byOf Tryz.prog 3 = some 8 := by kernel_rfl
theorem ag_3 : aggOf Tryz.prog 3 = some false := by kernel_rfl
theorem zc_3 : zcOf Tryz.prog 3 = some [.int .i64 0] := by kernel_rfl
theorem zv_3 : (Tryz.prog.info? 3).bind (·.zero) = some (.int .i64 0) := by kernel_rfl
theorem sz_4 : szOf Tryz.prog 4 = some 1 := by kernel_rfl
theorem by_4 : byOf Tryz.prog 4 = some 1 := by kernel_rfl
theorem ag_4 : aggOf Tryz.prog 4 = some false := by kernel_rfl
theorem zc_4 : zcOf Tryz.prog 4 = some [.bool false] := by kernel_rfl
theorem sz_5 : szOf Tryz.prog 5 = some 1 := by kernel_rfl
theorem by_5 : byOf Tryz.prog 5 = some 1 := by kernel_rfl
theorem ag_5 : aggOf Tryz.prog 5 = some false := by kernel_rfl
theorem zc_5 : zcOf Tryz.prog 5 = some [.int .u8 0] := by kernel_rfl
theorem zv_5 : (Tryz.prog.info? 5).bind (·.zero) = some (.int .u8 0) := by kernel_rfl
theorem sz_6 : szOf Tryz.prog 6 = some 1 := by kernel_rfl
theorem by_6 : byOf Tryz.prog 6 = some 1 := by kernel_rfl
theorem ag_6 : aggOf Tryz.prog 6 = some false := by kernel_rfl
theorem zc_6 : zcOf Tryz.prog 6 = some [.int .u8 0] := by kernel_rfl
theorem zv_6 : (Tryz.prog.info? 6).bind (·.zero) = some (.int .u8 0) := by kernel_rfl
theorem sz_7 : szOf Tryz.prog 7 = some 4 := by kernel_rfl
theorem by_7 : byOf Tryz.prog 7 = some 24 := by kernel_rfl
theorem ag_7 : aggOf Tryz.prog 7 = some true := by kernel_rfl
theorem zc_7 : zcOf Tryz.prog 7 = some [.int .i64 0, .int .i64 0, .bool false, .int .u8 0] := by kernel_rfl
theorem sa_7 : isAggOf Tryz.prog 7 = true := by kernel_rfl
theorem pl_7 : plOf Tryz.prog 7 = some [(0, 1), (1, 1), (2, 1), (3, 1)] := by kernel_rfl
theorem fo_7_0 : foOf Tryz.prog 7 0 = some 0 := by kernel_rfl
theorem fi_7_0 : fiOf Tryz.prog 7 0 = some (0, 1, false) := by kernel_rfl
theorem fo_7_1 : foOf Tryz.prog 7 1 = some 1 := by kernel_rfl
theorem fi_7_1 : fiOf Tryz.prog 7 1 = some (1, 1, false) := by kernel_rfl
theorem fo_7_2 : foOf Tryz.prog 7 2 = some 2 := by kernel_rfl
theorem fi_7_2 : fiOf Tryz.prog 7 2 = some (2, 1, false) := by kernel_rfl
theorem fo_7_3 : foOf Tryz.prog 7 3 = some 3 := by kernel_rfl
theorem fi_7_3 : fiOf Tryz.prog 7 3 = some (3, 1, false) := by kernel_rfl
theorem sz_8 : szOf Tryz.prog 8 = some 4 := by kernel_rfl
theorem by_8 : byOf Tryz.prog 8 = some 24 := by kernel_rfl
theorem ag_8 : aggOf Tryz.prog 8 = some true := by kernel_rfl
theorem zc_8 : zcOf Tryz.prog 8 = some [.int .i64 0, .int .i64 0, .bool false, .int .u8 0] := by kernel_rfl
theorem sa_8 : isAggOf Tryz.prog 8 = true := by kernel_rfl
theorem pl_8 : plOf Tryz.prog 8 = some [(0, 1), (1, 1), (2, 1), (3, 1)] := by kernel_rfl
theorem fo_8_0 : foOf Tryz.prog 8 0 = some 0 := by kernel_rfl
theorem fi_8_0 : fiOf Tryz.prog 8 0 = some (0, 1, false) := by kernel_rfl
theorem fo_8_1 : foOf Tryz.prog 8 1 = some 1 := by kernel_rfl
theorem fi_8_1 : fiOf Tryz.prog 8 1 = some (1, 1, false) := by kernel_rfl
theorem fo_8_2 : foOf Tryz.prog 8 2 = some 2 := by kernel_rfl
theorem fi_8_2 : fiOf Tryz.prog 8 2 = some (2, 1, false) := by kernel_rfl
theorem fo_8_3 : foOf Tryz.prog 8 3 = some 3 := by kernel_rfl
theorem fi_8_3 : fiOf Tryz.prog 8 3 = some (3, 1, false) := by kernel_rfl
theorem sz_9 : szOf Tryz.prog 9 = some 1 := by kernel_rfl
theorem by_9 : byOf Tryz.prog 9 = some 16 := by kernel_rfl
theorem ag_9 : aggOf Tryz.prog 9 = some false := by kernel_rfl
theorem zc_9 : zcOf Tryz.prog 9 = some [.string .empty] := by kernel_rfl
theorem sz_10 : szOf Tryz.prog 10 = some 1 := by kernel_rfl
theorem by_10 : byOf Tryz.prog 10 = some 16 := by kernel_rfl
theorem ag_10 : aggOf Tryz.prog 10 = some false := by kernel_rfl
theorem zc_10 : zcOf Tryz.prog 10 = some [.string .empty] := by kernel_rfl
theorem sz_11 : szOf Tryz.prog 11 = some 1 := by kernel_rfl
theorem by_11 : byOf Tryz.prog 11 = some 16 := by kernel_rfl
theorem ag_11 : aggOf Tryz.prog 11 = some false := by kernel_rfl
theorem zc_11 : zcOf Tryz.prog 11 = some [.string .empty] := by kernel_rfl
theorem sz_12 : szOf Tryz.prog 12 = some 1 := by kernel_rfl
theorem by_12 : byOf Tryz.prog 12 = some 8 := by kernel_rfl
theorem ag_12 : aggOf Tryz.prog 12 = some false := by kernel_rfl
theorem zc_12 : zcOf Tryz.prog 12 = some [.int .u64 0] := by kernel_rfl
theorem zv_12 : (Tryz.prog.info? 12).bind (·.zero) = some (.int .u64 0) := by kernel_rfl
theorem sz_13 : szOf Tryz.prog 13 = some 2 := by kernel_rfl
theorem by_13 : byOf Tryz.prog 13 = some 24 := by kernel_rfl
theorem ag_13 : aggOf Tryz.prog 13 = some true := by kernel_rfl
theorem zc_13 : zcOf Tryz.prog 13 = some [.string .empty, .int .u64 0] := by kernel_rfl
theorem sa_13 : isAggOf Tryz.prog 13 = true := by kernel_rfl
theorem pl_13 : plOf Tryz.prog 13 = some [(0, 1), (1, 1)] := by kernel_rfl
theorem fo_13_0 : foOf Tryz.prog 13 0 = some 0 := by kernel_rfl
theorem fi_13_0 : fiOf Tryz.prog 13 0 = some (0, 1, false) := by kernel_rfl
theorem fo_13_1 : foOf Tryz.prog 13 1 = some 1 := by kernel_rfl
theorem fi_13_1 : fiOf Tryz.prog 13 1 = some (1, 1, false) := by kernel_rfl
theorem sz_14 : szOf Tryz.prog 14 = some 2 := by kernel_rfl
theorem by_14 : byOf Tryz.prog 14 = some 24 := by kernel_rfl
theorem ag_14 : aggOf Tryz.prog 14 = some true := by kernel_rfl
theorem zc_14 : zcOf Tryz.prog 14 = some [.string .empty, .int .u64 0] := by kernel_rfl
theorem sa_14 : isAggOf Tryz.prog 14 = true := by kernel_rfl
theorem pl_14 : plOf Tryz.prog 14 = some [(0, 1), (1, 1)] := by kernel_rfl
theorem fo_14_0 : foOf Tryz.prog 14 0 = some 0 := by kernel_rfl
theorem fi_14_0 : fiOf Tryz.prog 14 0 = some (0, 1, false) := by kernel_rfl
theorem fo_14_1 : foOf Tryz.prog 14 1 = some 1 := by kernel_rfl
theorem fi_14_1 : fiOf Tryz.prog 14 1 = some (1, 1, false) := by kernel_rfl
theorem sz_15 : szOf Tryz.prog 15 = some 1 := by kernel_rfl
theorem by_15 : byOf Tryz.prog 15 = some 8 := by kernel_rfl
theorem ag_15 : aggOf Tryz.prog 15 = some false := by kernel_rfl
theorem zc_15 : zcOf Tryz.prog 15 = some [.pointer none] := by kernel_rfl
theorem sz_16 : szOf Tryz.prog 16 = some 1 := by kernel_rfl
theorem by_16 : byOf Tryz.prog 16 = some 8 := by kernel_rfl
theorem ag_16 : aggOf Tryz.prog 16 = some false := by kernel_rfl
theorem zc_16 : zcOf Tryz.prog 16 = some [.pointer none] := by kernel_rfl
theorem sz_17 : szOf Tryz.prog 17 = some 1 := by kernel_rfl
theorem by_17 : byOf Tryz.prog 17 = some 8 := by kernel_rfl
theorem ag_17 : aggOf Tryz.prog 17 = some false := by kernel_rfl
theorem zc_17 : zcOf Tryz.prog 17 = some [.pointer none] := by kernel_rfl
theorem sz_18 : szOf Tryz.prog 18 = some 1 := by kernel_rfl
theorem by_18 : byOf Tryz.prog 18 = some 8 := by kernel_rfl
theorem ag_18 : aggOf Tryz.prog 18 = some true := by kernel_rfl
theorem zc_18 : zcOf Tryz.prog 18 = some [.pointer none] := by kernel_rfl
theorem sa_18 : isAggOf Tryz.prog 18 = true := by kernel_rfl
theorem pl_18 : plOf Tryz.prog 18 = some [(0, 1)] := by kernel_rfl
theorem fo_18_0 : foOf Tryz.prog 18 0 = some 0 := by kernel_rfl
theorem fi_18_0 : fiOf Tryz.prog 18 0 = some (0, 1, false) := by kernel_rfl
theorem sz_19 : szOf Tryz.prog 19 = some 1 := by kernel_rfl
theorem by_19 : byOf Tryz.prog 19 = some 8 := by kernel_rfl
theorem ag_19 : aggOf Tryz.prog 19 = some true := by kernel_rfl
theorem zc_19 : zcOf Tryz.prog 19 = some [.pointer none] := by kernel_rfl
theorem sa_19 : isAggOf Tryz.prog 19 = true := by kernel_rfl
theorem pl_19 : plOf Tryz.prog 19 = some [(0, 1)] := by kernel_rfl
theorem fo_19_0 : foOf Tryz.prog 19 0 = some 0 := by kernel_rfl
theorem fi_19_0 : fiOf Tryz.prog 19 0 = some (0, 1, false) := by kernel_rfl
theorem sz_20 : szOf Tryz.prog 20 = some 1 := by kernel_rfl
theorem by_20 : byOf Tryz.prog 20 = some 16 := by kernel_rfl
theorem ag_20 : aggOf Tryz.prog 20 = some false := by kernel_rfl
theorem zc_20 : zcOf Tryz.prog 20 = some [.nilIface] := by kernel_rfl
theorem sz_21 : szOf Tryz.prog 21 = some 1 := by kernel_rfl
theorem by_21 : byOf Tryz.prog 21 = some 4 := by kernel_rfl
theorem ag_21 : aggOf Tryz.prog 21 = some false := by kernel_rfl
theorem zc_21 : zcOf Tryz.prog 21 = some [.int .i32 0] := by kernel_rfl
theorem zv_21 : (Tryz.prog.info? 21).bind (·.zero) = some (.int .i32 0) := by kernel_rfl
theorem sz_22 : szOf Tryz.prog 22 = some 1 := by kernel_rfl
theorem by_22 : byOf Tryz.prog 22 = some 2 := by kernel_rfl
theorem ag_22 : aggOf Tryz.prog 22 = some false := by kernel_rfl
theorem zc_22 : zcOf Tryz.prog 22 = some [.int .u16 0] := by kernel_rfl
theorem zv_22 : (Tryz.prog.info? 22).bind (·.zero) = some (.int .u16 0) := by kernel_rfl
theorem sz_23 : szOf Tryz.prog 23 = some 8 := by kernel_rfl
theorem by_23 : byOf Tryz.prog 23 = some 72 := by kernel_rfl
theorem ag_23 : aggOf Tryz.prog 23 = some true := by kernel_rfl
theorem zc_23 : zcOf Tryz.prog 23 = some [.string .empty, .int .i64 0, .int .i64 0, .int .i64 0, .int .i64 0, .int .i64 0, .int .i64 0, .int .i64 0] := by kernel_rfl
theorem sa_23 : isAggOf Tryz.prog 23 = true := by kernel_rfl
theorem pl_23 : plOf Tryz.prog 23 = some [(0, 1), (1, 1), (2, 1), (3, 1), (4, 1), (5, 1), (6, 1), (7, 1)] := by kernel_rfl
theorem fo_23_0 : foOf Tryz.prog 23 0 = some 0 := by kernel_rfl
theorem fi_23_0 : fiOf Tryz.prog 23 0 = some (0, 1, false) := by kernel_rfl
theorem fo_23_1 : foOf Tryz.prog 23 1 = some 1 := by kernel_rfl
theorem fi_23_1 : fiOf Tryz.prog 23 1 = some (1, 1, false) := by kernel_rfl
theorem fo_23_2 : foOf Tryz.prog 23 2 = some 2 := by kernel_rfl
theorem fi_23_2 : fiOf Tryz.prog 23 2 = some (2, 1, false) := by kernel_rfl
theorem fo_23_3 : foOf Tryz.prog 23 3 = some 3 := by kernel_rfl
theorem fi_23_3 : fiOf Tryz.prog 23 3 = some (3, 1, false) := by kernel_rfl
theorem fo_23_4 : foOf Tryz.prog 23 4 = some 4 := by kernel_rfl
theorem fi_23_4 : fiOf Tryz.prog 23 4 = some (4, 1, false) := by kernel_rfl
theorem fo_23_5 : foOf Tryz.prog 23 5 = some 5 := by kernel_rfl
theorem fi_23_5 : fiOf Tryz.prog 23 5 = some (5, 1, false) := by kernel_rfl
theorem fo_23_6 : foOf Tryz.prog 23 6 = some 6 := by kernel_rfl
theorem fi_23_6 : fiOf Tryz.prog 23 6 = some (6, 1, false) := by kernel_rfl
theorem fo_23_7 : foOf Tryz.prog 23 7 = some 7 := by kernel_rfl
theorem fi_23_7 : fiOf Tryz.prog 23 7 = some (7, 1, false) := by kernel_rfl
theorem sz_24 : szOf Tryz.prog 24 = some 8 := by kernel_rfl
theorem by_24 : byOf Tryz.prog 24 = some 72 := by kernel_rfl
theorem ag_24 : aggOf Tryz.prog 24 = some true := by kernel_rfl
theorem zc_24 : zcOf Tryz.prog 24 = some [.string .empty, .int .i64 0, .int .i64 0, .int .i64 0, .int .i64 0, .int .i64 0, .int .i64 0, .int .i64 0] := by kernel_rfl
theorem sa_24 : isAggOf Tryz.prog 24 = true := by kernel_rfl
theorem pl_24 : plOf Tryz.prog 24 = some [(0, 1), (1, 1), (2, 1), (3, 1), (4, 1), (5, 1), (6, 1), (7, 1)] := by kernel_rfl
theorem fo_24_0 : foOf Tryz.prog 24 0 = some 0 := by kernel_rfl
theorem fi_24_0 : fiOf Tryz.prog 24 0 = some (0, 1, false) := by kernel_rfl
theorem fo_24_1 : foOf Tryz.prog 24 1 = some 1 := by kernel_rfl
theorem fi_24_1 : fiOf Tryz.prog 24 1 = some (1, 1, false) := by kernel_rfl
theorem fo_24_2 : foOf Tryz.prog 24 2 = some 2 := by kernel_rfl
theorem fi_24_2 : fiOf Tryz.prog 24 2 = some (2, 1, false) := by kernel_rfl
theorem fo_24_3 : foOf Tryz.prog 24 3 = some 3 := by kernel_rfl
theorem fi_24_3 : fiOf Tryz.prog 24 3 = some (3, 1, false) := by kernel_rfl
theorem fo_24_4 : foOf Tryz.prog 24 4 = some 4 := by kernel_rfl
theorem fi_24_4 : fiOf Tryz.prog 24 4 = some (4, 1, false) := by kernel_rfl
theorem fo_24_5 : foOf Tryz.prog 24 5 = some 5 := by kernel_rfl
theorem fi_24_5 : fiOf Tryz.prog 24 5 = some (5, 1, false) := by kernel_rfl
theorem fo_24_6 : foOf Tryz.prog 24 6 = some 6 := by kernel_rfl
theorem fi_24_6 : fiOf Tryz.prog 24 6 = some (6, 1, false) := by kernel_rfl
theorem fo_24_7 : foOf Tryz.prog 24 7 = some 7 := by kernel_rfl
theorem fi_24_7 : fiOf Tryz.prog 24 7 = some (7, 1, false) := by kernel_rfl
theorem sz_25 : szOf Tryz.prog 25 = some 3 := by kernel_rfl
theorem by_25 : byOf Tryz.prog 25 = some 24 := by kernel_rfl
theorem ag_25 : aggOf Tryz.prog 25 = some true := by kernel_rfl
theorem zc_25 : zcOf Tryz.prog 25 = some [.int .i64 0, .int .i64 0, .int .i64 0] := by kernel_rfl
theorem sa_25 : isAggOf Tryz.prog 25 = true := by kernel_rfl
theorem pl_25 : plOf Tryz.prog 25 = some [(0, 1), (1, 1), (2, 1)] := by kernel_rfl
theorem fo_25_0 : foOf Tryz.prog 25 0 = some 0 := by kernel_rfl
theorem fi_25_0 : fiOf Tryz.prog 25 0 = some (0, 1, false) := by kernel_rfl
theorem fo_25_1 : foOf Tryz.prog 25 1 = some 1 := by kernel_rfl
theorem fi_25_1 : fiOf Tryz.prog 25 1 = some (1, 1, false) := by kernel_rfl
theorem fo_25_2 : foOf Tryz.prog 25 2 = some 2 := by kernel_rfl
theorem fi_25_2 : fiOf Tryz.prog 25 2 = some (2, 1, false) := by kernel_rfl
theorem sz_26 : szOf Tryz.prog 26 = some 3 := by kernel_rfl
theorem by_26 : byOf Tryz.prog 26 = some 24 := by kernel_rfl
theorem ag_26 : aggOf Tryz.prog 26 = some true := by kernel_rfl
theorem zc_26 : zcOf Tryz.prog 26 = some [.int .i64 0, .int .i64 0, .int .i64 0] := by kernel_rfl
theorem sa_26 : isAggOf Tryz.prog 26 = true := by kernel_rfl
theorem pl_26 : plOf Tryz.prog 26 = some [(0, 1), (1, 1), (2, 1)] := by kernel_rfl
theorem fo_26_0 : foOf Tryz.prog 26 0 = some 0 := by kernel_rfl
theorem fi_26_0 : fiOf Tryz.prog 26 0 = some (0, 1, false) := by kernel_rfl
theorem fo_26_1 : foOf Tryz.prog 26 1 = some 1 := by kernel_rfl
theorem fi_26_1 : fiOf Tryz.prog 26 1 = some (1, 1, false) := by kernel_rfl
theorem fo_26_2 : foOf Tryz.prog 26 2 = some 2 := by kernel_rfl
theorem fi_26_2 : fiOf Tryz.prog 26 2 = some (2, 1, false) := by kernel_rfl
theorem sz_27 : szOf Tryz.prog 27 = some 6 := by kernel_rfl
theorem by_27 : byOf Tryz.prog 27 = some 48 := by kernel_rfl
theorem ag_27 : aggOf Tryz.prog 27 = some true := by kernel_rfl
theorem zc_27 : zcOf Tryz.prog 27 = some [.int .i64 0, .int .i64 0, .int .i64 0, .int .i64 0, .int .i64 0, .int .i64 0] := by kernel_rfl
theorem sa_27 : isAggOf Tryz.prog 27 = true := by kernel_rfl
theorem pl_27 : plOf Tryz.prog 27 = some [(0, 1), (1, 1), (2, 1), (3, 1), (4, 1), (5, 1)] := by kernel_rfl
theorem fo_27_0 : foOf Tryz.prog 27 0 = some 0 := by kernel_rfl
theorem fi_27_0 : fiOf Tryz.prog 27 0 = some (0, 1, false) := by kernel_rfl
theorem fo_27_1 : foOf Tryz.prog 27 1 = some 1 := by kernel_rfl
theorem fi_27_1 : fiOf Tryz.prog 27 1 = some (1, 1, false) := by kernel_rfl
theorem fo_27_2 : foOf Tryz.prog 27 2 = some 2 := by kernel_rfl
theorem fi_27_2 : fiOf Tryz.prog 27 2 = some (2, 1, false) := by kernel_rfl
theorem fo_27_3 : foOf Tryz.prog 27 3 = some 3 := by kernel_rfl
theorem fi_27_3 : fiOf Tryz.prog 27 3 = some (3, 1, false) := by kernel_rfl
theorem fo_27_4 : foOf Tryz.prog 27 4 = some 4 := by kernel_rfl
theorem fi_27_4 : fiOf Tryz.prog 27 4 = some (4, 1, false) := by kernel_rfl
theorem fo_27_5 : foOf Tryz.prog 27 5 = some 5 := by kernel_rfl
theorem fi_27_5 : fiOf Tryz.prog 27 5 = some (5, 1, false) := by kernel_rfl
theorem sz_28 : szOf Tryz.prog 28 = some 6 := by kernel_rfl
theorem by_28 : byOf Tryz.prog 28 = some 48 := by kernel_rfl
theorem ag_28 : aggOf Tryz.prog 28 = some true := by kernel_rfl
theorem zc_28 : zcOf Tryz.prog 28 = some [.int .i64 0, .int .i64 0, .int .i64 0, .int .i64 0, .int .i64 0, .int .i64 0] := by kernel_rfl
theorem sa_28 : isAggOf Tryz.prog 28 = true := by kernel_rfl
theorem pl_28 : plOf Tryz.prog 28 = some [(0, 1), (1, 1), (2, 1), (3, 1), (4, 1), (5, 1)] := by kernel_rfl
theorem fo_28_0 : foOf Tryz.prog 28 0 = some 0 := by kernel_rfl
theorem fi_28_0 : fiOf Tryz.prog 28 0 = some (0, 1, false) := by kernel_rfl
theorem fo_28_1 : foOf Tryz.prog 28 1 = some 1 := by kernel_rfl
theorem fi_28_1 : fiOf Tryz.prog 28 1 = some (1, 1, false) := by kernel_rfl
theorem fo_28_2 : foOf Tryz.prog 28 2 = some 2 := by kernel_rfl
theorem fi_28_2 : fiOf Tryz.prog 28 2 = some (2, 1, false) := by kernel_rfl
theorem fo_28_3 : foOf Tryz.prog 28 3 = some 3 := by kernel_rfl
theorem fi_28_3 : fiOf Tryz.prog 28 3 = some (3, 1, false) := by kernel_rfl
theorem fo_28_4 : foOf Tryz.prog 28 4 = some 4 := by kernel_rfl
theorem fi_28_4 : fiOf Tryz.prog 28 4 = some (4, 1, false) := by kernel_rfl
theorem fo_28_5 : foOf Tryz.prog 28 5 = some 5 := by kernel_rfl
theorem fi_28_5 : fiOf Tryz.prog 28 5 = some (5, 1, false) := by kernel_rfl
theorem sz_29 : szOf Tryz.prog 29 = some 1 := by kernel_rfl
theorem by_29 : byOf Tryz.prog 29 = some 8 := by kernel_rfl
theorem ag_29 : aggOf Tryz.prog 29 = some false := by kernel_rfl
theorem zc_29 : zcOf Tryz.prog 29 = some [.nilFunc] := by kernel_rfl
theorem sz_30 : szOf Tryz.prog 30 = some 1 := by kernel_rfl
theorem by_30 : byOf Tryz.prog 30 = some 24 := by kernel_rfl
theorem ag_30 : aggOf Tryz.prog 30 = some false := by kernel_rfl
theorem zc_30 : zcOf Tryz.prog 30 = some [.slice none 0 0] := by kernel_rfl
theorem sz_31 : szOf Tryz.prog 31 = some 1 := by kernel_rfl
theorem by_31 : byOf Tryz.prog 31 = some 8 := by kernel_rfl
theorem ag_31 : aggOf Tryz.prog 31 = some false := by kernel_rfl
theorem zc_31 : zcOf Tryz.prog 31 = some [.nilFunc] := by kernel_rfl
theorem sz_32 : szOf Tryz.prog 32 = some 1 := by kernel_rfl
theorem by_32 : byOf Tryz.prog 32 = some 24 := by kernel_rfl
theorem ag_32 : aggOf Tryz.prog 32 = some false := by kernel_rfl
theorem zc_32 : zcOf Tryz.prog 32 = some [.slice none 0 0] := by kernel_rfl
theorem sz_33 : szOf Tryz.prog 33 = some 1 := by kernel_rfl
theorem by_33 : byOf Tryz.prog 33 = some 8 := by kernel_rfl
theorem ag_33 : aggOf Tryz.prog 33 = some false := by kernel_rfl
theorem zc_33 : zcOf Tryz.prog 33 = some [.int .i64 0] := by kernel_rfl
theorem zv_33 : (Tryz.prog.info? 33).bind (·.zero) = some (.int .i64 0) := by kernel_rfl
theorem sz_35 : szOf Tryz.prog 35 = some 1 := by kernel_rfl
theorem by_35 : byOf Tryz.prog 35 = some 8 := by kernel_rfl
theorem ag_35 : aggOf Tryz.prog 35 = some false := by kernel_rfl
theorem zc_35 : zcOf Tryz.prog 35 = some [.nilFunc] := by kernel_rfl
theorem sz_36 : szOf Tryz.prog 36 = some 1 := by kernel_rfl
theorem by_36 : byOf Tryz.prog 36 = some 24 := by kernel_rfl
theorem ag_36 : aggOf Tryz.prog 36 = some false := by kernel_rfl
theorem zc_36 : zcOf Tryz.prog 36 = some [.slice none 0 0] := by kernel_rfl
theorem sz_37 : szOf Tryz.prog 37 = some 1 := by kernel_rfl
theorem by_37 : byOf Tryz.prog 37 = some 24 := by kernel_rfl
theorem ag_37 : aggOf Tryz.prog 37 = some false := by kernel_rfl
theorem zc_37 : zcOf Tryz.prog 37 = some [.slice none 0 0] := by kernel_rfl
theorem sz_38 : szOf Tryz.prog 38 = some 1 := by kernel_rfl
theorem by_38 : byOf Tryz.prog 38 = some 24 := by kernel_rfl
theorem ag_38 : aggOf Tryz.prog 38 = some false := by kernel_rfl
theorem zc_38 : zcOf Tryz.prog 38 = some [.slice none 0 0] := by kernel_rfl
theorem sz_40 : szOf Tryz.prog 40 = some 1 := by kernel_rfl
theorem by_40 : byOf Tryz.prog 40 = some 8 := by kernel_rfl
theorem ag_40 : aggOf Tryz.prog 40 = some false := by kernel_rfl
theorem zc_40 : zcOf Tryz.prog 40 = some [.nilFunc] := by kernel_rfl
theorem sz_42 : szOf Tryz.prog 42 = some 1 := by kernel_rfl
theorem by_42 : byOf Tryz.prog 42 = some 8 := by kernel_rfl
theorem ag_42 : aggOf Tryz.prog 42 = some false := by kernel_rfl
theorem zc_42 : zcOf Tryz.prog 42 = some [.nilFunc] := by kernel_rfl
theorem sz_44 : szOf Tryz.prog 44 = some 1 := by kernel_rfl
theorem by_44 : byOf Tryz.prog 44 = some 8 := by kernel_rfl
theorem ag_44 : aggOf Tryz.prog 44 = some false := by kernel_rfl
theorem zc_44 : zcOf Tryz.prog 44 = some [.nilFunc] := by kernel_rfl
theorem sz_45 : szOf Tryz.prog 45 = some 1 := by kernel_rfl
theorem by_45 : byOf Tryz.prog 45 = some 24 := by kernel_rfl
theorem ag_45 : aggOf Tryz.prog 45 = some false := by kernel_rfl
theorem zc_45 : zcOf Tryz.prog 45 = some [.slice none 0 0] := by kernel_rfl
theorem sz_47 : szOf Tryz.prog 47 = some 1 := by kernel_rfl
theorem by_47 : byOf Tryz.prog 47 = some 8 := by kernel_rfl
theorem ag_47 : aggOf Tryz.prog 47 = some false := by kernel_rfl
theorem zc_47 : zcOf Tryz.prog 47 = some [.nilFunc] := by kernel_rfl
theorem sz_48 : szOf Tryz.prog 48 = some 1 := by kernel_rfl
theorem by_48 : byOf Tryz.prog 48 = some 8 := by kernel_rfl
theorem ag_48 : aggOf Tryz.prog 48 = some false := by kernel_rfl
theorem zc_48 : zcOf Tryz.prog 48 = some [.nilFunc] := by kernel_rfl
theorem sz_49 : szOf Tryz.prog 49 = some 3 := by kernel_rfl
theorem by_49 : byOf Tryz.prog 49 = some 24 := by kernel_rfl
theorem ag_49 : aggOf Tryz.prog 49 = some true := by kernel_rfl
theorem zc_49 : zcOf Tryz.prog 49 = some [.int .i64 0, .int .i64 0, .int .i64 0] := by kernel_rfl
theorem sa_49 : isAggOf Tryz.prog 49 = true := by kernel_rfl
theorem pl_49 : plOf Tryz.prog 49 = some [(0, 1), (1, 1), (2, 1)] := by kernel_rfl
theorem fo_49_0 : foOf Tryz.prog 49 0 = some 0 := by kernel_rfl
theorem fi_49_0 : fiOf Tryz.prog 49 0 = some (0, 1, false) := by kernel_rfl
theorem fo_49_1 : foOf Tryz.prog 49 1 = some 1 := by kernel_rfl
theorem fi_49_1 : fiOf Tryz.prog 49 1 = some (1, 1, false) := by kernel_rfl
theorem fo_49_2 : foOf Tryz.prog 49 2 = some 2 := by kernel_rfl
theorem fi_49_2 : fiOf Tryz.prog 49 2 = some (2, 1, false) := by kernel_rfl
theorem sz_50 : szOf Tryz.prog 50 = some 3 := by kernel_rfl
theorem by_50 : byOf Tryz.prog 50 = some 24 := by kernel_rfl
theorem ag_50 : aggOf Tryz.prog 50 = some true := by kernel_rfl
theorem zc_50 : zcOf Tryz.prog 50 = some [.int .i64 0, .int .i64 0, .int .i64 0] := by kernel_rfl
theorem sa_50 : isAggOf Tryz.prog 50 = true := by kernel_rfl
theorem pl_50 : plOf Tryz.prog 50 = some [(0, 1), (1, 1), (2, 1)] := by kernel_rfl
theorem fo_50_0 : foOf Tryz.prog 50 0 = some 0 := by kernel_rfl
theorem fi_50_0 : fiOf Tryz.prog 50 0 = some (0, 1, false) := by kernel_rfl
theorem fo_50_1 : foOf Tryz.prog 50 1 = some 1 := by kernel_rfl
theorem fi_50_1 : fiOf Tryz.prog 50 1 = some (1, 1, false) := by kernel_rfl
theorem fo_50_2 : foOf Tryz.prog 50 2 = some 2 := by kernel_rfl
theorem fi_50_2 : fiOf Tryz.prog 50 2 = some (2, 1, false) := by kernel_rfl
theorem sz_51 : szOf Tryz.prog 51 = some 1 := by kernel_rfl
theorem by_51 : byOf Tryz.prog 51 = some 8 := by kernel_rfl
theorem ag_51 : aggOf Tryz.prog 51 = some false := by kernel_rfl
theorem zc_51 : zcOf Tryz.prog 51 = some [.nilFunc] := by kernel_rfl
theorem sz_52 : szOf Tryz.prog 52 = some 2 := by kernel_rfl
theorem by_52 : byOf Tryz.prog 52 = some 16 := by kernel_rfl
theorem ag_52 : aggOf Tryz.prog 52 = some true := by kernel_rfl
theorem zc_52 : zcOf Tryz.prog 52 = some [.int .i64 0, .int .i64 0] := by kernel_rfl
theorem sa_52 : isAggOf Tryz.prog 52 = true := by kernel_rfl
theorem pl_52 : plOf Tryz.prog 52 = some [(0, 1), (1, 1)] := by kernel_rfl
theorem fo_52_0 : foOf Tryz.prog 52 0 = some 0 := by kernel_rfl
theorem fi_52_0 : fiOf Tryz.prog 52 0 = some (0, 1, false) := by kernel_rfl
theorem fo_52_1 : foOf Tryz.prog 52 1 = some 1 := by kernel_rfl
theorem fi_52_1 : fiOf Tryz.prog 52 1 = some (1, 1, false) := by kernel_rfl
theorem sz_53 : szOf Tryz.prog 53 = some 2 := by kernel_rfl
theorem by_53 : byOf Tryz.prog 53 = some 16 := by kernel_rfl
theorem ag_53 : aggOf Tryz.prog 53 = some true := by kernel_rfl
theorem zc_53 : zcOf Tryz.prog 53 = some [.int .i64 0, .int .i64 0] := by kernel_rfl
theorem sa_53 : isAggOf Tryz.prog 53 = true := by kernel_rfl
theorem pl_53 : plOf Tryz.prog 53 = some [(0, 1), (1, 1)] := by kernel_rfl
theorem fo_53_0 : foOf Tryz.prog 53 0 = some 0 := by kernel_rfl
theorem fi_53_0 : fiOf Tryz.prog 53 0 = some (0, 1, false) := by kernel_rfl
theorem fo_53_1 : foOf Tryz.prog 53 1 = some 1 := by kernel_rfl
theorem fi_53_1 : fiOf Tryz.prog 53 1 = some (1, 1, false) := by kernel_rfl
theorem sz_54 : szOf Tryz.prog 54 = some 1 := by kernel_rfl
theorem by_54 : byOf Tryz.prog 54 = some 8 := by kernel_rfl
theorem ag_54 : aggOf Tryz.prog 54 = some false := by kernel_rfl
theorem zc_54 : zcOf Tryz.prog 54 = some [.pointer none] := by kernel_rfl
theorem sz_56 : szOf Tryz.prog 56 = some 1 := by kernel_rfl
theorem by_56 : byOf Tryz.prog 56 = some 8 := by kernel_rfl
theorem ag_56 : aggOf Tryz.prog 56 = some false := by kernel_rfl
theorem zc_56 : zcOf Tryz.prog 56 = some [.nilFunc] := by kernel_rfl
theorem sz_57 : szOf Tryz.prog 57 = some 1 := by kernel_rfl
theorem by_57 : byOf Tryz.prog 57 = some 8 := by kernel_rfl
theorem ag_57 : aggOf Tryz.prog 57 = some false := by kernel_rfl
theorem zc_57 : zcOf Tryz.prog 57 = some [.nilFunc] := by kernel_rfl
theorem sz_58 : szOf Tryz.prog 58 = some 1 := by kernel_rfl
theorem by_58 : byOf Tryz.prog 58 = some 8 := by kernel_rfl
theorem ag_58 : aggOf Tryz.prog 58 = some false := by kernel_rfl
theorem zc_58 : zcOf Tryz.prog 58 = some [.nilFunc] := by kernel_rfl
theorem sz_59 : szOf Tryz.prog 59 = some 1 := by kernel_rfl
theorem by_59 : byOf Tryz.prog 59 = some 8 := by kernel_rfl
theorem ag_59 : aggOf Tryz.prog 59 = some false := by kernel_rfl
theorem zc_59 : zcOf Tryz.prog 59 = some [.pointer none] := by kernel_rfl
theorem sz_61 : szOf Tryz.prog 61 = some 1 := by kernel_rfl
theorem by_61 : byOf Tryz.prog 61 = some 8 := by kernel_rfl
theorem ag_61 : aggOf Tryz.prog 61 = some false := by kernel_rfl
theorem zc_61 : zcOf Tryz.prog 61 = some [.nilFunc] := by kernel_rfl
theorem sz_62 : szOf Tryz.prog 62 = some 2 := by kernel_rfl
theorem by_62 : byOf Tryz.prog 62 = some 48 := by kernel_rfl
theorem ag_62 : aggOf Tryz.prog 62 = some true := by kernel_rfl
theorem zc_62 : zcOf Tryz.prog 62 = some [.slice none 0 0, .slice none 0 0] := by kernel_rfl
theorem sa_62 : isAggOf Tryz.prog 62 = true := by kernel_rfl
theorem pl_62 : plOf Tryz.prog 62 = some [(0, 1), (1, 1)] := by kernel_rfl
theorem fo_62_0 : foOf Tryz.prog 62 0 = some 0 := by kernel_rfl
theorem fi_62_0 : fiOf Tryz.prog 62 0 = some (0, 1, false) := by kernel_rfl
theorem fo_62_1 : foOf Tryz.prog 62 1 = some 1 := by kernel_rfl
theorem fi_62_1 : fiOf Tryz.prog 62 1 = some (1, 1, false) := by kernel_rfl
theorem sz_63 : szOf Tryz.prog 63 = some 2 := by kernel_rfl
theorem by_63 : byOf Tryz.prog 63 = some 48 := by kernel_rfl
theorem ag_63 : aggOf Tryz.prog 63 = some true := by kernel_rfl
theorem zc_63 : zcOf Tryz.prog 63 = some [.slice none 0 0, .slice none 0 0] := by kernel_rfl
theorem sa_63 : isAggOf Tryz.prog 63 = true := by kernel_rfl
theorem pl_63 : plOf Tryz.prog 63 = some [(0, 1), (1, 1)] := by kernel_rfl
theorem fo_63_0 : foOf Tryz.prog 63 0 = some 0 := by kernel_rfl
theorem fi_63_0 : fiOf Tryz.prog 63 0 = some (0, 1, false) := by kernel_rfl
theorem fo_63_1 : foOf Tryz.prog 63 1 = some 1 := by kernel_rfl
theorem fi_63_1 : fiOf Tryz.prog 63 1 = some (1, 1, false) := by kernel_rfl
theorem sz_64 : szOf Tryz.prog 64 = some 1 := by kernel_rfl
theorem by_64 : byOf Tryz.prog 64 = some 8 := by kernel_rfl
theorem ag_64 : aggOf Tryz.prog 64 = some false := by kernel_rfl
theorem zc_64 : zcOf Tryz.prog 64 = some [.nilFunc] := by kernel_rfl
theorem sz_65 : szOf Tryz.prog 65 = some 1 := by kernel_rfl
theorem by_65 : byOf Tryz.prog 65 = some 8 := by kernel_rfl
theorem ag_65 : aggOf Tryz.prog 65 = some false := by kernel_rfl
theorem zc_65 : zcOf Tryz.prog 65 = some [.nilFunc] := by kernel_rfl
theorem sz_66 : szOf Tryz.prog 66 = some 1 := by kernel_rfl
theorem by_66 : byOf Tryz.prog 66 = some 8 := by kernel_rfl
theorem ag_66 : aggOf Tryz.prog 66 = some false := by kernel_rfl
theorem zc_66 : zcOf Tryz.prog 66 = some [.nilFunc] := by kernel_rfl
theorem sz_67 : szOf Tryz.prog 67 = some 1 := by kernel_rfl
theorem by_67 : byOf Tryz.prog 67 = some 8 := by kernel_rfl
theorem ag_67 : aggOf Tryz.prog 67 = some false := by kernel_rfl
theorem zc_67 : zcOf Tryz.prog 67 = some [.nilFunc] := by kernel_rfl
theorem sz_68 : szOf Tryz.prog 68 = some 1 := by kernel_rfl
theorem by_68 : byOf Tryz.prog 68 = some 8 := by kernel_rfl
theorem ag_68 : aggOf Tryz.prog 68 = some false := by kernel_rfl
theorem zc_68 : zcOf Tryz.prog 68 = some [.nilFunc] := by kernel_rfl
theorem sz_69 : szOf Tryz.prog 69 = some 2 := by kernel_rfl
theorem by_69 : byOf Tryz.prog 69 = some 16 := by kernel_rfl
theorem ag_69 : aggOf Tryz.prog 69 = some true := by kernel_rfl
theorem zc_69 : zcOf Tryz.prog 69 = some [.int .i64 0, .int .i64 0] := by kernel_rfl
theorem sa_69 : isAggOf Tryz.prog 69 = true := by kernel_rfl
theorem pl_69 : plOf Tryz.prog 69 = some [(0, 1), (1, 1)] := by kernel_rfl
theorem fo_69_0 : foOf Tryz.prog 69 0 = some 0 := by kernel_rfl
theorem fi_69_0 : fiOf Tryz.prog 69 0 = some (0, 1, false) := by kernel_rfl
theorem fo_69_1 : foOf Tryz.prog 69 1 = some 1 := by kernel_rfl
theorem fi_69_1 : fiOf Tryz.prog 69 1 = some (1, 1, false) := by kernel_rfl
theorem sz_70 : szOf Tryz.prog 70 = some 2 := by kernel_rfl
theorem by_70 : byOf Tryz.prog 70 = some 16 := by kernel_rfl
theorem ag_70 : aggOf Tryz.prog 70 = some true := by kernel_rfl
theorem zc_70 : zcOf Tryz.prog 70 = some [.int .i64 0, .int .i64 0] := by kernel_rfl
theorem sa_70 : isAggOf Tryz.prog 70 = true := by kernel_rfl
theorem pl_70 : plOf Tryz.prog 70 = some [(0, 1), (1, 1)] := by kernel_rfl
theorem fo_70_0 : foOf Tryz.prog 70 0 = some 0 := by kernel_rfl
theorem fi_70_0 : fiOf Tryz.prog 70 0 = some (0, 1, false) := by kernel_rfl
theorem fo_70_1 : foOf Tryz.prog 70 1 = some 1 := by kernel_rfl
theorem fi_70_1 : fiOf Tryz.prog 70 1 = some (1, 1, false) := by kernel_rfl
theorem sz_71 : szOf Tryz.prog 71 = some 5 := by kernel_rfl
theorem by_71 : byOf Tryz.prog 71 = some 40 := by kernel_rfl
theorem ag_71 : aggOf Tryz.prog 71 = some true := by kernel_rfl
theorem zc_71 : zcOf Tryz.prog 71 = some [.int .i64 0, .int .i64 0, .int .i64 0, .int .i64 0, .int .i64 0] := by kernel_rfl
theorem sa_71 : isAggOf Tryz.prog 71 = true := by kernel_rfl
theorem pl_71 : plOf Tryz.prog 71 = some [(0, 2), (2, 1), (3, 1), (4, 1)] := by kernel_rfl
theorem fo_71_0 : foOf Tryz.prog 71 0 = some 0 := by kernel_rfl
theorem fi_71_0 : fiOf Tryz.prog 71 0 = some (0, 2, true) := by kernel_rfl
theorem fo_71_1 : foOf Tryz.prog 71 1 = some 2 := by kernel_rfl
theorem fi_71_1 : fiOf Tryz.prog 71 1 = some (2, 1, false) := by kernel_rfl
theorem fo_71_2 : foOf Tryz.prog 71 2 = some 3 := by kernel_rfl
theorem fi_71_2 : fiOf Tryz.prog 71 2 = some (3, 1, false) := by kernel_rfl
theorem fo_71_3 : foOf Tryz.prog 71 3 = some 4 := by kernel_rfl
theorem fi_71_3 : fiOf Tryz.prog 71 3 = some (4, 1, false) := by kernel_rfl
theorem sz_72 : szOf Tryz.prog 72 = some 5 := by kernel_rfl
theorem by_72 : byOf Tryz.prog 72 = some 40 := by kernel_rfl
theorem ag_72 : aggOf Tryz.prog 72 = some true := by kernel_rfl
theorem zc_72 : zcOf Tryz.prog 72 = some [.int .i64 0, .int .i64 0, .int .i64 0, .int .i64 0, .int .i64 0] := by kernel_rfl
theorem sa_72 : isAggOf Tryz.prog 72 = true := by kernel_rfl
theorem pl_72 : plOf Tryz.prog 72 = some [(0, 2), (2, 1), (3, 1), (4, 1)] := by kernel_rfl
theorem fo_72_0 : foOf Tryz.prog 72 0 = some 0 := by kernel_rfl
theorem fi_72_0 : fiOf Tryz.prog 72 0 = some (0, 2, true) := by kernel_rfl
theorem fo_72_1 : foOf Tryz.prog 72 1 = some 2 := by kernel_rfl
theorem fi_72_1 : fiOf Tryz.prog 72 1 = some (2, 1, false) := by kernel_rfl
theorem fo_72_2 : foOf Tryz.prog 72 2 = some 3 := by kernel_rfl
theorem fi_72_2 : fiOf Tryz.prog 72 2 = some (3, 1, false) := by kernel_rfl
theorem fo_72_3 : foOf Tryz.prog 72 3 = some 4 := by kernel_rfl
theorem fi_72_3 : fiOf Tryz.prog 72 3 = some (4, 1, false) := by kernel_rfl
theorem sz_74 : szOf Tryz.prog 74 = some 1 := by kernel_rfl
theorem by_74 : byOf Tryz.prog 74 = some 8 := by kernel_rfl
theorem ag_74 : aggOf Tryz.prog 74 = some false := by kernel_rfl
theorem zc_74 : zcOf Tryz.prog 74 = some [.nilFunc] := by kernel_rfl
theorem sz_75 : szOf Tryz.prog 75 = some 7 := by kernel_rfl
theorem by_75 : byOf Tryz.prog 75 = some 56 := by kernel_rfl
theorem ag_75 : aggOf Tryz.prog 75 = some true := by kernel_rfl
theorem zc_75 : zcOf Tryz.prog 75 = some [.int .i64 0, .int .i64 0, .int .i64 0, .int .i64 0, .int .i64 0, .int .i64 0, .int .i64 0] := by kernel_rfl
theorem sa_75 : isAggOf Tryz.prog 75 = true := by kernel_rfl
theorem pl_75 : plOf Tryz.prog 75 = some [(0, 1), (1, 1), (2, 1), (3, 1), (4, 1), (5, 1), (6, 1)] := by kernel_rfl
theorem fo_75_0 : foOf Tryz.prog 75 0 = some 0 := by kernel_rfl
theorem fi_75_0 : fiOf Tryz.prog 75 0 = some (0, 1, false) := by kernel_rfl
theorem fo_75_1 : foOf Tryz.prog 75 1 = some 1 := by kernel_rfl
theorem fi_75_1 : fiOf Tryz.prog 75 1 = some (1, 1, false) := by kernel_rfl
theorem fo_75_2 : foOf Tryz.prog 75 2 = some 2 := by kernel_rfl
theorem fi_75_2 : fiOf Tryz.prog 75 2 = some (2, 1, false) := by kernel_rfl
theorem fo_75_3 : foOf Tryz.prog 75 3 = some 3 := by kernel_rfl
theorem fi_75_3 : fiOf Tryz.prog 75 3 = some (3, 1, false) := by kernel_rfl
theorem fo_75_4 : foOf Tryz.prog 75 4 = some 4 := by kernel_rfl
theorem fi_75_4 : fiOf Tryz.prog 75 4 = some (4, 1, false) := by kernel_rfl
theorem fo_75_5 : foOf Tryz.prog 75 5 = some 5 := by kernel_rfl
theorem fi_75_5 : fiOf Tryz.prog 75 5 = some (5, 1, false) := by kernel_rfl
theorem fo_75_6 : foOf Tryz.prog 75 6 = some 6 := by kernel_rfl
theorem fi_75_6 : fiOf Tryz.prog 75 6 = some (6, 1, false) := by kernel_rfl
theorem sz_76 : szOf Tryz.prog 76 = some 7 := by kernel_rfl
theorem by_76 : byOf Tryz.prog 76 = some 56 := by kernel_rfl
theorem ag_76 : aggOf Tryz.prog 76 = some true := by kernel_rfl
theorem zc_76 : zcOf Tryz.prog 76 = some [.int .i64 0, .int .i64 0, .int .i64 0, .int .i64 0, .int .i64 0, .int .i64 0, .int .i64 0] := by kernel_rfl
theorem sa_76 : isAggOf Tryz.prog 76 = true := by kernel_rfl
theorem pl_76 : plOf Tryz.prog 76 = some [(0, 1), (1, 1), (2, 1), (3, 1), (4, 1), (5, 1), (6, 1)] := by kernel_rfl
theorem fo_76_0 : foOf Tryz.prog 76 0 = some 0 := by kernel_rfl
theorem fi_76_0 : fiOf Tryz.prog 76 0 = some (0, 1, false) := by kernel_rfl
theorem fo_76_1 : foOf Tryz.prog 76 1 = some 1 := by kernel_rfl
theorem fi_76_1 : fiOf Tryz.prog 76 1 = some (1, 1, false) := by kernel_rfl
theorem fo_76_2 : foOf Tryz.prog 76 2 = some 2 := by kernel_rfl
theorem fi_76_2 : fiOf Tryz.prog 76 2 = some (2, 1, false) := by kernel_rfl
theorem fo_76_3 : foOf Tryz.prog 76 3 = some 3 := by kernel_rfl
theorem fi_76_3 : fiOf Tryz.prog 76 3 = some (3, 1, false) := by kernel_rfl
theorem fo_76_4 : foOf Tryz.prog 76 4 = some 4 := by kernel_rfl
theorem fi_76_4 : fiOf Tryz.prog 76 4 = some (4, 1, false) := by kernel_rfl
theorem fo_76_5 : foOf Tryz.prog 76 5 = some 5 := by kernel_rfl
theorem fi_76_5 : fiOf Tryz.prog 76 5 = some (5, 1, false) := by kernel_rfl
theorem fo_76_6 : foOf Tryz.prog 76 6 = some 6 := by kernel_rfl
theorem fi_76_6 : fiOf Tryz.prog 76 6 = some (6, 1, false) := by kernel_rfl
theorem sz_78 : szOf Tryz.prog 78 = some 1 := by kernel_rfl
theorem by_78 : byOf Tryz.prog 78 = some 8 := by kernel_rfl
theorem ag_78 : aggOf Tryz.prog 78 = some false := by kernel_rfl
theorem zc_78 : zcOf Tryz.prog 78 = some [.nilFunc] := by kernel_rfl
theorem sz_79 : szOf Tryz.prog 79 = some 2 := by kernel_rfl
theorem by_79 : byOf Tryz.prog 79 = some 16 := by kernel_rfl
theorem ag_79 : aggOf Tryz.prog 79 = some true := by kernel_rfl
theorem zc_79 : zcOf Tryz.prog 79 = some [.int .i64 0, .int .i64 0] := by kernel_rfl
theorem sa_79 : isAggOf Tryz.prog 79 = true := by kernel_rfl
theorem pl_79 : plOf Tryz.prog 79 = some [(0, 1), (1, 1)] := by kernel_rfl
theorem fo_79_0 : foOf Tryz.prog 79 0 = some 0 := by kernel_rfl
theorem fi_79_0 : fiOf Tryz.prog 79 0 = some (0, 1, false) := by kernel_rfl
theorem fo_79_1 : foOf Tryz.prog 79 1 = some 1 := by kernel_rfl
theorem fi_79_1 : fiOf Tryz.prog 79 1 = some (1, 1, false) := by kernel_rfl
theorem sz_80 : szOf Tryz.prog 80 = some 2 := by kernel_rfl
theorem by_80 : byOf Tryz.prog 80 = some 16 := by kernel_rfl
theorem ag_80 : aggOf Tryz.prog 80 = some true := by kernel_rfl
theorem zc_80 : zcOf Tryz.prog 80 = some [.int .i64 0, .int .i64 0] := by kernel_rfl
theorem sa_80 : isAggOf Tryz.prog 80 = true := by kernel_rfl
theorem pl_80 : plOf Tryz.prog 80 = some [(0, 1), (1, 1)] := by kernel_rfl
theorem fo_80_0 : foOf Tryz.prog 80 0 = some 0 := by kernel_rfl
theorem fi_80_0 : fiOf Tryz.prog 80 0 = some (0, 1, false) := by kernel_rfl
theorem fo_80_1 : foOf Tryz.prog 80 1 = some 1 := by kernel_rfl
theorem fi_80_1 : fiOf Tryz.prog 80 1 = some (1, 1, false) := by kernel_rfl
theorem sz_81 : szOf Tryz.prog 81 = some 1 := by kernel_rfl
theorem by_81 : byOf Tryz.prog 81 = some 24 := by kernel_rfl
theorem ag_81 : aggOf Tryz.prog 81 = some false := by kernel_rfl
theorem zc_81 : zcOf Tryz.prog 81 = some [.slice none 0 0] := by kernel_rfl
theorem sz_82 : szOf Tryz.prog 82 = some 1 := by kernel_rfl
theorem by_82 : byOf Tryz.prog 82 = some 8 := by kernel_rfl
theorem ag_82 : aggOf Tryz.prog 82 = some false := by kernel_rfl
theorem zc_82 : zcOf Tryz.prog 82 = some [.nilFunc] := by kernel_rfl
theorem sz_83 : szOf Tryz.prog 83 = some 1 := by kernel_rfl
theorem by_83 : byOf Tryz.prog 83 = some 8 := by kernel_rfl
theorem ag_83 : aggOf Tryz.prog 83 = some false := by kernel_rfl
theorem zc_83 : zcOf Tryz.prog 83 = some [.nilFunc] := by kernel_rfl
theorem sz_84 : szOf Tryz.prog 84 = some 3 := by kernel_rfl
theorem by_84 : byOf Tryz.prog 84 = some 56 := by kernel_rfl
theorem ag_84 : aggOf Tryz.prog 84 = some true := by kernel_rfl
theorem zc_84 : zcOf Tryz.prog 84 = some [.slice none 0 0, .slice none 0 0, .int .i64 0] := by kernel_rfl
theorem sa_84 : isAggOf Tryz.prog 84 = true := by kernel_rfl
theorem pl_84 : plOf Tryz.prog 84 = some [(0, 1), (1, 1), (2, 1)] := by kernel_rfl
theorem fo_84_0 : foOf Tryz.prog 84 0 = some 0 := by kernel_rfl
theorem fi_84_0 : fiOf Tryz.prog 84 0 = some (0, 1, false) := by kernel_rfl
theorem fo_84_1 : foOf Tryz.prog 84 1 = some 1 := by kernel_rfl
theorem fi_84_1 : fiOf Tryz.prog 84 1 = some (1, 1, false) := by kernel_rfl
theorem fo_84_2 : foOf Tryz.prog 84 2 = some 2 := by kernel_rfl
theorem fi_84_2 : fiOf Tryz.prog 84 2 = some (2, 1, false) := by kernel_rfl
theorem sz_85 : szOf Tryz.prog 85 = some 3 := by kernel_rfl
theorem by_85 : byOf Tryz.prog 85 = some 56 := by kernel_rfl
theorem ag_85 : aggOf Tryz.prog 85 = some true := by kernel_rfl
theorem zc_85 : zcOf Tryz.prog 85 = some [.slice none 0 0, .slice none 0 0, .int .i64 0] := by kernel_rfl
theorem sa_85 : isAggOf Tryz.prog 85 = true := by kernel_rfl
theorem pl_85 : plOf Tryz.prog 85 = some [(0, 1), (1, 1), (2, 1)] := by kernel_rfl
theorem fo_85_0 : foOf Tryz.prog 85 0 = some 0 := by kernel_rfl
theorem fi_85_0 : fiOf Tryz.prog 85 0 = some (0, 1, false) := by kernel_rfl
theorem fo_85_1 : foOf Tryz.prog 85 1 = some 1 := by kernel_rfl
theorem fi_85_1 : fiOf Tryz.prog 85 1 = some (1, 1, false) := by kernel_rfl
theorem fo_85_2 : foOf Tryz.prog 85 2 = some 2 := by kernel_rfl
theorem fi_85_2 : fiOf Tryz.prog 85 2 = some (2, 1, false) := by kernel_rfl
theorem sz_87 : szOf Tryz.prog 87 = some 1 := by kernel_rfl
theorem by_87 : byOf Tryz.prog 87 = some 8 := by kernel_rfl
theorem ag_87 : aggOf Tryz.prog 87 = some false := by kernel_rfl
theorem zc_87 : zcOf Tryz.prog 87 = some [.nilFunc] := by kernel_rfl
theorem sz_88 : szOf Tryz.prog 88 = some 2 := by kernel_rfl
theorem by_88 : byOf Tryz.prog 88 = some 40 := by kernel_rfl
theorem ag_88 : aggOf Tryz.prog 88 = some true := by kernel_rfl
theorem zc_88 : zcOf Tryz.prog 88 = some [.string .empty, .slice none 0 0] := by kernel_rfl
theorem sa_88 : isAggOf Tryz.prog 88 = true := by kernel_rfl
theorem pl_88 : plOf Tryz.prog 88 = some [(0, 1), (1, 1)] := by kernel_rfl
theorem fo_88_0 : foOf Tryz.prog 88 0 = some 0 := by kernel_rfl
theorem fi_88_0 : fiOf Tryz.prog 88 0 = some (0, 1, false) := by kernel_rfl
theorem fo_88_1 : foOf Tryz.prog 88 1 = some 1 := by kernel_rfl
theorem fi_88_1 : fiOf Tryz.prog 88 1 = some (1, 1, false) := by kernel_rfl
theorem sz_89 : szOf Tryz.prog 89 = some 2 := by kernel_rfl
theorem by_89 : byOf Tryz.prog 89 = some 40 := by kernel_rfl
theorem ag_89 : aggOf Tryz.prog 89 = some true := by kernel_rfl
theorem zc_89 : zcOf Tryz.prog 89 = some [.string .empty, .slice none 0 0] := by kernel_rfl
theorem sa_89 : isAggOf Tryz.prog 89 = true := by kernel_rfl
theorem pl_89 : plOf Tryz.prog 89 = some [(0, 1), (1, 1)] := by kernel_rfl
theorem fo_89_0 : foOf Tryz.prog 89 0 = some 0 := by kernel_rfl
theorem fi_89_0 : fiOf Tryz.prog 89 0 = some (0, 1, false) := by kernel_rfl
theorem fo_89_1 : foOf Tryz.prog 89 1 = some 1 := by kernel_rfl
theorem fi_89_1 : fiOf Tryz.prog 89 1 = some (1, 1, false) := by kernel_rfl
theorem sz_90 : szOf Tryz.prog 90 = some 1 := by kernel_rfl
theorem by_90 : byOf Tryz.prog 90 = some 24 := by kernel_rfl
theorem ag_90 : aggOf Tryz.prog 90 = some false := by kernel_rfl
theorem zc_90 : zcOf Tryz.prog 90 = some [.slice none 0 0] := by kernel_rfl
theorem sz_91 : szOf Tryz.prog 91 = some 7 := by kernel_rfl
theorem by_91 : byOf Tryz.prog 91 = some 56 := by kernel_rfl
theorem ag_91 : aggOf Tryz.prog 91 = some true := by kernel_rfl
theorem zc_91 : zcOf Tryz.prog 91 = some [.int .i64 0, .int .i64 0, .int .i64 0, .int .i64 0, .int .i64 0, .int .i64 0, .int .i64 0] := by kernel_rfl
theorem sa_91 : isAggOf Tryz.prog 91 = true := by kernel_rfl
theorem pl_91 : plOf Tryz.prog 91 = some [(0, 1), (1, 1), (2, 1), (3, 1), (4, 1), (5, 1), (6, 1)] := by kernel_rfl
theorem fo_91_0 : foOf Tryz.prog 91 0 = some 0 := by kernel_rfl
theorem fi_91_0 : fiOf Tryz.prog 91 0 = some (0, 1, false) := by kernel_rfl
theorem fo_91_1 : foOf Tryz.prog 91 1 = some 1 := by kernel_rfl
theorem fi_91_1 : fiOf Tryz.prog 91 1 = some (1, 1, false) := by kernel_rfl
theorem fo_91_2 : foOf Tryz.prog 91 2 = some 2 := by kernel_rfl
theorem fi_91_2 : fiOf Tryz.prog 91 2 = some (2, 1, false) := by kernel_rfl
theorem fo_91_3 : foOf Tryz.prog 91 3 = some 3 := by kernel_rfl
theorem fi_91_3 : fiOf Tryz.prog 91 3 = some (3, 1, false) := by kernel_rfl
theorem fo_91_4 : foOf Tryz.prog 91 4 = some 4 := by kernel_rfl
theorem fi_91_4 : fiOf Tryz.prog 91 4 = some (4, 1, false) := by kernel_rfl
theorem fo_91_5 : foOf Tryz.prog 91 5 = some 5 := by kernel_rfl
theorem fi_91_5 : fiOf Tryz.prog 91 5 = some (5, 1, false) := by kernel_rfl
theorem fo_91_6 : foOf Tryz.prog 91 6 = some 6 := by kernel_rfl
theorem fi_91_6 : fiOf Tryz.prog 91 6 = some (6, 1, false) := by kernel_rfl
theorem sz_92 : szOf Tryz.prog 92 = some 7 := by kernel_rfl
theorem by_92 : byOf Tryz.prog 92 = some 56 := by kernel_rfl
theorem ag_92 : aggOf Tryz.prog 92 = some true := by kernel_rfl
theorem zc_92 : zcOf Tryz.prog 92 = some [.int .i64 0, .int .i64 0, .int .i64 0, .int .i64 0, .int .i64 0, .int .i64 0, .int .i64 0] := by kernel_rfl
theorem sa_92 : isAggOf Tryz.prog 92 = true := by kernel_rfl
theorem pl_92 : plOf Tryz.prog 92 = some [(0, 1), (1, 1), (2, 1), (3, 1), (4, 1), (5, 1), (6, 1)] := by kernel_rfl
theorem fo_92_0 : foOf Tryz.prog 92 0 = some 0 := by kernel_rfl
theorem fi_92_0 : fiOf Tryz.prog 92 0 = some (0, 1, false) := by kernel_rfl
theorem fo_92_1 : foOf Tryz.prog 92 1 = some 1 := by kernel_rfl
theorem fi_92_1 : fiOf Tryz.prog 92 1 = some (1, 1, false) := by kernel_rfl
theorem fo_92_2 : foOf Tryz.prog 92 2 = some 2 := by kernel_rfl
theorem fi_92_2 : fiOf Tryz.prog 92 2 = some (2, 1, false) := by kernel_rfl
theorem fo_92_3 : foOf Tryz.prog 92 3 = some 3 := by kernel_rfl
theorem fi_92_3 : fiOf Tryz.prog 92 3 = some (3, 1, false) := by kernel_rfl
theorem fo_92_4 : foOf Tryz.prog 92 4 = some 4 := by kernel_rfl
theorem fi_92_4 : fiOf Tryz.prog 92 4 = some (4, 1, false) := by kernel_rfl
theorem fo_92_5 : foOf Tryz.prog 92 5 = some 5 := by kernel_rfl
theorem fi_92_5 : fiOf Tryz.prog 92 5 = some (5, 1, false) := by kernel_rfl
theorem fo_92_6 : foOf Tryz.prog 92 6 = some 6 := by kernel_rfl
theorem fi_92_6 : fiOf Tryz.prog 92 6 = some (6, 1, false) := by kernel_rfl
theorem sz_93 : szOf Tryz.prog 93 = some 1 := by kernel_rfl
theorem by_93 : byOf Tryz.prog 93 = some 24 := by kernel_rfl
theorem ag_93 : aggOf Tryz.prog 93 = some false := by kernel_rfl
theorem zc_93 : zcOf Tryz.prog 93 = some [.slice none 0 0] := by kernel_rfl
theorem sz_94 : szOf Tryz.prog 94 = some 1 := by kernel_rfl
theorem by_94 : byOf Tryz.prog 94 = some 8 := by kernel_rfl
theorem ag_94 : aggOf Tryz.prog 94 = some false := by kernel_rfl
theorem zc_94 : zcOf Tryz.prog 94 = some [.nilFunc] := by kernel_rfl
theorem sz_95 : szOf Tryz.prog 95 = some 1 := by kernel_rfl
theorem by_95 : byOf Tryz.prog 95 = some 8 := by kernel_rfl
theorem ag_95 : aggOf Tryz.prog 95 = some false := by kernel_rfl
theorem zc_95 : zcOf Tryz.prog 95 = some [.nilFunc] := by kernel_rfl
theorem sz_96 : szOf Tryz.prog 96 = some 9 := by kernel_rfl
theorem by_96 : byOf Tryz.prog 96 = some 96 := by kernel_rfl
theorem ag_96 : aggOf Tryz.prog 96 = some true := by kernel_rfl
theorem zc_96 : zcOf Tryz.prog 96 = some [.string .empty, .int .i64 0, .int .i64 0, .int .i64 0, .int .i64 0, .int .i64 0, .int .i64 0, .int .i64 0, .slice none 0 0] := by kernel_rfl
theorem sa_96 : isAggOf Tryz.prog 96 = true := by kernel_rfl
theorem pl_96 : plOf Tryz.prog 96 = some [(0, 8), (8, 1)] := by kernel_rfl
theorem fo_96_0 : foOf Tryz.prog 96 0 = some 0 := by kernel_rfl
theorem fi_96_0 : fiOf Tryz.prog 96 0 = some (0, 8, true) := by kernel_rfl
theorem fo_96_1 : foOf Tryz.prog 96 1 = some 8 := by kernel_rfl
theorem fi_96_1 : fiOf Tryz.prog 96 1 = some (8, 1, false) := by kernel_rfl
theorem sz_97 : szOf Tryz.prog 97 = some 9 := by kernel_rfl
theorem by_97 : byOf Tryz.prog 97 = some 96 := by kernel_rfl
theorem ag_97 : aggOf Tryz.prog 97 = some true := by kernel_rfl
theorem zc_97 : zcOf Tryz.prog 97 = some [.string .empty, .int .i64 0, .int .i64 0, .int .i64 0, .int .i64 0, .int .i64 0, .int .i64 0, .int .i64 0, .slice none 0 0] := by kernel_rfl
theorem sa_97 : isAggOf Tryz.prog 97 = true := by kernel_rfl
theorem pl_97 : plOf Tryz.prog 97 = some [(0, 8), (8, 1)] := by kernel_rfl
theorem fo_97_0 : foOf Tryz.prog 97 0 = some 0 := by kernel_rfl
theorem fi_97_0 : fiOf Tryz.prog 97 0 = some (0, 8, true) := by kernel_rfl
theorem fo_97_1 : foOf Tryz.prog 97 1 = some 8 := by kernel_rfl
theorem fi_97_1 : fiOf Tryz.prog 97 1 = some (8, 1, false) := by kernel_rfl
theorem sz_98 : szOf Tryz.prog 98 = some 1 := by kernel_rfl
theorem by_98 : byOf Tryz.prog 98 = some 8 := by kernel_rfl
theorem ag_98 : aggOf Tryz.prog 98 = some false := by kernel_rfl
theorem zc_98 : zcOf Tryz.prog 98 = some [.nilFunc] := by kernel_rfl
theorem sz_99 : szOf Tryz.prog 99 = some 1 := by kernel_rfl
theorem by_99 : byOf Tryz.prog 99 = some 8 := by kernel_rfl
theorem ag_99 : aggOf Tryz.prog 99 = some false := by kernel_rfl
theorem zc_99 : zcOf Tryz.prog 99 = some [.nilFunc] := by kernel_rfl
theorem sz_100 : szOf Tryz.prog 100 = some 1 := by kernel_rfl
theorem by_100 : byOf Tryz.prog 100 = some 8 := by kernel_rfl
theorem ag_100 : aggOf Tryz.prog 100 = some false := by kernel_rfl
theorem zc_100 : zcOf Tryz.prog 100 = some [.nilFunc] := by kernel_rfl
theorem sz_101 : szOf Tryz.prog 101 = some 8 := by kernel_rfl
theorem by_101 : byOf Tryz.prog 101 = some 80 := by kernel_rfl
theorem ag_101 : aggOf Tryz.prog 101 = some true := by kernel_rfl
theorem zc_101 : zcOf Tryz.prog 101 = some [.int .i64 0, .int .i64 0, .int .i64 0, .int .i64 0, .int .i64 0, .int .i64 0, .slice none 0 0, .int .i64 0] := by kernel_rfl
theorem sa_101 : isAggOf Tryz.prog 101 = true := by kernel_rfl
theorem pl_101 : plOf Tryz.prog 101 = some [(0, 6), (6, 1), (7, 1)] := by kernel_rfl
theorem fo_101_0 : foOf Tryz.prog 101 0 = some 0 := by kernel_rfl
theorem fi_101_0 : fiOf Tryz.prog 101 0 = some (0, 6, true) := by kernel_rfl
theorem fo_101_1 : foOf Tryz.prog 101 1 = some 6 := by kernel_rfl
theorem fi_101_1 : fiOf Tryz.prog 101 1 = some (6, 1, false) := by kernel_rfl
theorem fo_101_2 : foOf Tryz.prog 101 2 = some 7 := by kernel_rfl
theorem fi_101_2 : fiOf Tryz.prog 101 2 = some (7, 1, false) := by kernel_rfl
theorem sz_102 : szOf Tryz.prog 102 = some 8 := by kernel_rfl
theorem by_102 : byOf Tryz.prog 102 = some 80 := by kernel_rfl
theorem ag_102 : aggOf Tryz.prog 102 = some true := by kernel_rfl
theorem zc_102 : zcOf Tryz.prog 102 = some [.int .i64 0, .int .i64 0, .int .i64 0, .int .i64 0, .int .i64 0, .int .i64 0, .slice none 0 0, .int .i64 0] := by kernel_rfl
theorem sa_102 : isAggOf Tryz.prog 102 = true := by kernel_rfl
theorem pl_102 : plOf Tryz.prog 102 = some [(0, 6), (6, 1), (7, 1)] := by kernel_rfl
theorem fo_102_0 : foOf Tryz.prog 102 0 = some 0 := by kernel_rfl
theorem fi_102_0 : fiOf Tryz.prog 102 0 = some (0, 6, true) := by kernel_rfl
theorem fo_102_1 : foOf Tryz.prog 102 1 = some 6 := by kernel_rfl
theorem fi_102_1 : fiOf Tryz.prog 102 1 = some (6, 1, false) := by kernel_rfl
theorem fo_102_2 : foOf Tryz.prog 102 2 = some 7 := by kernel_rfl
theorem fi_102_2 : fiOf Tryz.prog 102 2 = some (7, 1, false) := by kernel_rfl
theorem sz_103 : szOf Tryz.prog 103 = some 1 := by kernel_rfl
theorem by_103 : byOf Tryz.prog 103 = some 24 := by kernel_rfl
theorem ag_103 : aggOf Tryz.prog 103 = some false := by kernel_rfl
theorem zc_103 : zcOf Tryz.prog 103 = some [.slice none 0 0] := by kernel_rfl
theorem sz_104 : szOf Tryz.prog 104 = some 1 := by kernel_rfl
theorem by_104 : byOf Tryz.prog 104 = some 8 := by kernel_rfl
theorem ag_104 : aggOf Tryz.prog 104 = some false := by kernel_rfl
theorem zc_104 : zcOf Tryz.prog 104 = some [.nilFunc] := by kernel_rfl
theorem sz_105 : szOf Tryz.prog 105 = some 1 := by kernel_rfl
theorem by_105 : byOf Tryz.prog 105 = some 8 := by kernel_rfl
theorem ag_105 : aggOf Tryz.prog 105 = some false := by kernel_rfl
theorem zc_105 : zcOf Tryz.prog 105 = some [.nilFunc] := by kernel_rfl
theorem sz_106 : szOf Tryz.prog 106 = some 1 := by kernel_rfl
theorem by_106 : byOf Tryz.prog 106 = some 8 := by kernel_rfl
theorem ag_106 : aggOf Tryz.prog 106 = some false := by kernel_rfl
theorem zc_106 : zcOf Tryz.prog 106 = some [.nilFunc] := by kernel_rfl
theorem sz_107 : szOf Tryz.prog 107 = some 1 := by kernel_rfl
theorem by_107 : byOf Tryz.prog 107 = some 8 := by kernel_rfl
theorem ag_107 : aggOf Tryz.prog 107 = some false := by kernel_rfl
theorem zc_107 : zcOf Tryz.prog 107 = some [.nilFunc] := by kernel_rfl
theorem sz_108 : szOf Tryz.prog 108 = some 1 := by kernel_rfl
theorem by_108 : byOf Tryz.prog 108 = some 8 := by kernel_rfl
theorem ag_108 : aggOf Tryz.prog 108 = some false := by kernel_rfl
theorem zc_108 : zcOf Tryz.prog 108 = some [.nilFunc] := by kernel_rfl
theorem sz_109 : szOf Tryz.prog 109 = some 1 := by kernel_rfl
theorem by_109 : byOf Tryz.prog 109 = some 8 := by kernel_rfl
theorem ag_109 : aggOf Tryz.prog 109 = some false := by kernel_rfl
theorem zc_109 : zcOf Tryz.prog 109 = some [.nilFunc] := by kernel_rfl
theorem sz_110 : szOf Tryz.prog 110 = some 1 := by kernel_rfl
theorem by_110 : byOf Tryz.prog 110 = some 8 := by kernel_rfl
theorem ag_110 : aggOf Tryz.prog 110 = some false := by kernel_rfl
theorem zc_110 : zcOf Tryz.prog 110 = some [.nilFunc] := by kernel_rfl
theorem sz_111 : szOf Tryz.prog 111 = some 1 := by kernel_rfl
theorem by_111 : byOf Tryz.prog 111 = some 8 := by kernel_rfl
theorem ag_111 : aggOf Tryz.prog 111 = some false := by kernel_rfl
theorem zc_111 : zcOf Tryz.prog 111 = some [.nilFunc] := by kernel_rfl
theorem sz_112 : szOf Tryz.prog 112 = some 1 := by kernel_rfl
theorem by_112 : byOf Tryz.prog 112 = some 8 := by kernel_rfl
theorem ag_112 : aggOf Tryz.prog 112 = some false := by kernel_rfl
theorem zc_112 : zcOf Tryz.prog 112 = some [.nilFunc] := by kernel_rfl
theorem sz_113 : szOf Tryz.prog 113 = some 1 := by kernel_rfl
theorem by_113 : byOf Tryz.prog 113 = some 8 := by kernel_rfl
theorem ag_113 : aggOf Tryz.prog 113 = some false := by kernel_rfl
theorem zc_113 : zcOf Tryz.prog 113 = some [.int .u64 0] := by kernel_rfl
theorem zv_113 : (Tryz.prog.info? 113).bind (·.zero) = some (.int .u64 0) := by kernel_rfl
theorem sz_114 : szOf Tryz.prog 114 = some 1 := by kernel_rfl
theorem by_114 : byOf Tryz.prog 114 = some 8 := by kernel_rfl
theorem ag_114 : aggOf Tryz.prog 114 = some false := by kernel_rfl
theorem zc_114 : zcOf Tryz.prog 114 = some [.nilFunc] := by kernel_rfl
theorem sz_115 : szOf Tryz.prog 115 = some 1 := by kernel_rfl
theorem by_115 : byOf Tryz.prog 115 = some 8 := by kernel_rfl
theorem ag_115 : aggOf Tryz.prog 115 = some false := by kernel_rfl
theorem zc_115 : zcOf Tryz.prog 115 = some [.nilFunc] := by kernel_rfl
theorem sz_116 : szOf Tryz.prog 116 = some 1 := by kernel_rfl
theorem by_116 : byOf Tryz.prog 116 = some 8 := by kernel_rfl
theorem ag_116 : aggOf Tryz.prog 116 = some false := by kernel_rfl
theorem zc_116 : zcOf Tryz.prog 116 = some [.nilFunc] := by kernel_rfl
theorem sz_117 : szOf Tryz.prog 117 = some 1 := by kernel_rfl
theorem by_117 : byOf Tryz.prog 117 = some 8 := by kernel_rfl
theorem ag_117 : aggOf Tryz.prog 117 = some false := by kernel_rfl
theorem zc_117 : zcOf Tryz.prog 117 = some [.pointer none] := by kernel_rfl
theorem sz_119 : szOf Tryz.prog 119 = some 1 := by kernel_rfl
theorem by_119 : byOf Tryz.prog 119 = some 8 := by kernel_rfl
theorem ag_119 : aggOf Tryz.prog 119 = some false := by kernel_rfl
theorem zc_119 : zcOf Tryz.prog 119 = some [.nilFunc] := by kernel_rfl
theorem sz_120 : szOf Tryz.prog 120 = some 1 := by kernel_rfl
theorem by_120 : byOf Tryz.prog 120 = some 8 := by kernel_rfl
theorem ag_120 : aggOf Tryz.prog 120 = some false := by kernel_rfl
theorem zc_120 : zcOf Tryz.prog 120 = some [.nilFunc] := by kernel_rfl
theorem sz_121 : szOf Tryz.prog 121 = some 1 := by kernel_rfl
theorem by_121 : byOf Tryz.prog 121 = some 8 := by kernel_rfl
theorem ag_121 : aggOf Tryz.prog 121 = some false := by kernel_rfl
theorem zc_121 : zcOf Tryz.prog 121 = some [.nilFunc] := by kernel_rfl
theorem sz_123 : szOf Tryz.prog 123 = some 1 := by kernel_rfl
theorem by_123 : byOf Tryz.prog 123 = some 8 := by kernel_rfl
theorem ag_123 : aggOf Tryz.prog 123 = some false := by kernel_rfl
theorem zc_123 : zcOf Tryz.prog 123 = some [.nilFunc] := by kernel_rfl
theorem sz_124 : szOf Tryz.prog 124 = some 1 := by kernel_rfl
theorem by_124 : byOf Tryz.prog 124 = some 8 := by kernel_rfl
theorem ag_124 : aggOf Tryz.prog 124 = some false := by kernel_rfl
theorem zc_124 : zcOf Tryz.prog 124 = some [.nilFunc] := by kernel_rfl
theorem sz_125 : szOf Tryz.prog 125 = some 1 := by kernel_rfl
theorem by_125 : byOf Tryz.prog 125 = some 24 := by kernel_rfl
theorem ag_125 : aggOf Tryz.prog 125 = some false := by kernel_rfl
theorem zc_125 : zcOf Tryz.prog 125 = some [.slice none 0 0] := by kernel_rfl
theorem sz_126 : szOf Tryz.prog 126 = some 1 := by kernel_rfl
theorem by_126 : byOf Tryz.prog 126 = some 8 := by kernel_rfl
theorem ag_126 : aggOf Tryz.prog 126 = some false := by kernel_rfl
theorem zc_126 : zcOf Tryz.prog 126 = some [.pointer none] := by kernel_rfl
theorem sz_128 : szOf Tryz.prog 128 = some 1 := by kernel_rfl
theorem by_128 : byOf Tryz.prog 128 = some 8 := by kernel_rfl
theorem ag_128 : aggOf Tryz.prog 128 = some false := by kernel_rfl
theorem zc_128 : zcOf Tryz.prog 128 = some [.nilFunc] := by kernel_rfl
theorem sz_129 : szOf Tryz.prog 129 = some 1 := by kernel_rfl
theorem by_129 : byOf Tryz.prog 129 = some 24 := by kernel_rfl
theorem ag_129 : aggOf Tryz.prog 129 = some false := by kernel_rfl
theorem zc_129 : zcOf Tryz.prog 129 = some [.slice none 0 0] := by kernel_rfl
theorem sz_130 : szOf Tryz.prog 130 = some 3 := by kernel_rfl
theorem by_130 : byOf Tryz.prog 130 = some 56 := by kernel_rfl
theorem ag_130 : aggOf Tryz.prog 130 = some true := by kernel_rfl
theorem zc_130 : zcOf Tryz.prog 130 = some [.slice none 0 0, .slice none 0 0, .int .i64 0] := by kernel_rfl
theorem sa_130 : isAggOf Tryz.prog 130 = true := by kernel_rfl
theorem pl_130 : plOf Tryz.prog 130 = some [(0, 1), (1, 1), (2, 1)] := by kernel_rfl
theorem fo_130_0 : foOf Tryz.prog 130 0 = some 0 := by kernel_rfl
theorem fi_130_0 : fiOf Tryz.prog 130 0 = some (0, 1, false) := by kernel_rfl
theorem fo_130_1 : foOf Tryz.prog 130 1 = some 1 := by kernel_rfl
theorem fi_130_1 : fiOf Tryz.prog 130 1 = some (1, 1, false) := by kernel_rfl
theorem fo_130_2 : foOf Tryz.prog 130 2 = some 2 := by kernel_rfl
theorem fi_130_2 : fiOf Tryz.prog 130 2 = some (2, 1, false) := by kernel_rfl
theorem sz_131 : szOf Tryz.prog 131 = some 3 := by kernel_rfl
theorem by_131 : byOf Tryz.prog 131 = some 56 := by kernel_rfl
theorem ag_131 : aggOf Tryz.prog 131 = some true := by kernel_rfl
theorem zc_131 : zcOf Tryz.prog 131 = some [.slice none 0 0, .slice none 0 0, .int .i64 0] := by kernel_rfl
theorem sa_131 : isAggOf Tryz.prog 131 = true := by kernel_rfl
theorem pl_131 : plOf Tryz.prog 131 = some [(0, 1), (1, 1), (2, 1)] := by kernel_rfl
theorem fo_131_0 : foOf Tryz.prog 131 0 = some 0 := by kernel_rfl
theorem fi_131_0 : fiOf Tryz.prog 131 0 = some (0, 1, false) := by kernel_rfl
theorem fo_131_1 : foOf Tryz.prog 131 1 = some 1 := by kernel_rfl
theorem fi_131_1 : fiOf Tryz.prog 131 1 = some (1, 1, false) := by kernel_rfl
theorem fo_131_2 : foOf Tryz.prog 131 2 = some 2 := by kernel_rfl
theorem fi_131_2 : fiOf Tryz.prog 131 2 = some (2, 1, false) := by kernel_rfl
theorem sz_132 : szOf Tryz.prog 132 = some 10 := by kernel_rfl
theorem by_132 : byOf Tryz.prog 132 = some 80 := by kernel_rfl
theorem ag_132 : aggOf Tryz.prog 132 = some true := by kernel_rfl
theorem zc_132 : zcOf Tryz.prog 132 = some [.int .i64 0, .int .i64 0, .int .i64 0, .int .i64 0, .int .i64 0, .int .i64 0, .int .i64 0, .int .i64 0, .int .i64 0, .int .i64 0] := by kernel_rfl
theorem sa_132 : isAggOf Tryz.prog 132 = true := by kernel_rfl
theorem pl_132 : plOf Tryz.prog 132 = some [(0, 7), (7, 1), (8, 1), (9, 1)] := by kernel_rfl
theorem fo_132_0 : foOf Tryz.prog 132 0 = some 0 := by kernel_rfl
theorem fi_132_0 : fiOf Tryz.prog 132 0 = some (0, 7, true) := by kernel_rfl
theorem fo_132_1 : foOf Tryz.prog 132 1 = some 7 := by kernel_rfl
theorem fi_132_1 : fiOf Tryz.prog 132 1 = some (7, 1, false) := by kernel_rfl
theorem fo_132_2 : foOf Tryz.prog 132 2 = some 8 := by kernel_rfl
theorem fi_132_2 : fiOf Tryz.prog 132 2 = some (8, 1, false) := by kernel_rfl
theorem fo_132_3 : foOf Tryz.prog 132 3 = some 9 := by kernel_rfl
theorem fi_132_3 : fiOf Tryz.prog 132 3 = some (9, 1, false) := by kernel_rfl
theorem sz_133 : szOf Tryz.prog 133 = some 10 := by kernel_rfl
theorem by_133 : byOf Tryz.prog 133 = some 80 := by kernel_rfl
theorem ag_133 : aggOf Tryz.prog 133 = some true := by kernel_rfl
theorem zc_133 : zcOf Tryz.prog 133 = some [.int .i64 0, .int .i64 0, .int .i64 0, .int .i64 0, .int .i64 0, .int .i64 0, .int .i64 0, .int .i64 0, .int .i64 0, .int .i64 0] := by kernel_rfl
theorem sa_133 : isAggOf Tryz.prog 133 = true := by kernel_rfl
theorem pl_133 : plOf Tryz.prog 133 = some [(0, 7), (7, 1), (8, 1), (9, 1)] := by kernel_rfl
theorem fo_133_0 : foOf Tryz.prog 133 0 = some 0 := by kernel_rfl
theorem fi_133_0 : fiOf Tryz.prog 133 0 = some (0, 7, true) := by kernel_rfl
theorem fo_133_1 : foOf Tryz.prog 133 1 = some 7 := by kernel_rfl
theorem fi_133_1 : fiOf Tryz.prog 133 1 = some (7, 1, false) := by kernel_rfl
theorem fo_133_2 : foOf Tryz.prog 133 2 = some 8 := by kernel_rfl
theorem fi_133_2 : fiOf Tryz.prog 133 2 = some (8, 1, false) := by kernel_rfl
theorem fo_133_3 : foOf Tryz.prog 133 3 = some 9 := by kernel_rfl
theorem fi_133_3 : fiOf Tryz.prog 133 3 = some (9, 1, false) := by kernel_rfl
theorem sz_134 : szOf Tryz.prog 134 = some 1 := by kernel_rfl
theorem by_134 : byOf Tryz.prog 134 = some 8 := by kernel_rfl
theorem ag_134 : aggOf Tryz.prog 134 = some false := by kernel_rfl
theorem zc_134 : zcOf Tryz.prog 134 = some [.nilFunc] := by kernel_rfl
theorem sz_135 : szOf Tryz.prog 135 = some 1 := by kernel_rfl
theorem by_135 : byOf Tryz.prog 135 = some 8 := by kernel_rfl
theorem ag_135 : aggOf Tryz.prog 135 = some false := by kernel_rfl
theorem zc_135 : zcOf Tryz.prog 135 = some [.nilFunc] := by kernel_rfl
theorem sz_136 : szOf Tryz.prog 136 = some 1 := by kernel_rfl
theorem by_136 : byOf Tryz.prog 136 = some 8 := by kernel_rfl
theorem ag_136 : aggOf Tryz.prog 136 = some false := by kernel_rfl
theorem zc_136 : zcOf Tryz.prog 136 = some [.nilFunc] := by kernel_rfl
theorem sz_137 : szOf Tryz.prog 137 = some 1 := by kernel_rfl
theorem by_137 : byOf Tryz.prog 137 = some 8 := by kernel_rfl
theorem ag_137 : aggOf Tryz.prog 137 = some false := by kernel_rfl
theorem zc_137 : zcOf Tryz.prog 137 = some [.nilFunc] := by kernel_rfl
theorem sz_138 : szOf Tryz.prog 138 = some 3 := by kernel_rfl
theorem by_138 : byOf Tryz.prog 138 = some 24 := by kernel_rfl
theorem ag_138 : aggOf Tryz.prog 138 = some true := by kernel_rfl
theorem zc_138 : zcOf Tryz.prog 138 = some [.int .i64 0, .int .i64 0, .int .i64 0] := by kernel_rfl
theorem sa_138 : isAggOf Tryz.prog 138 = true := by kernel_rfl
theorem pl_138 : plOf Tryz.prog 138 = some [(0, 1), (1, 1), (2, 1)] := by kernel_rfl
theorem sz_139 : szOf Tryz.prog 139 = some 1 := by kernel_rfl
theorem by_139 : byOf Tryz.prog 139 = some 8 := by kernel_rfl
theorem ag_139 : aggOf Tryz.prog 139 = some false := by kernel_rfl
theorem zc_139 : zcOf Tryz.prog 139 = some [.nilFunc] := by kernel_rfl
theorem sz_140 : szOf Tryz.prog 140 = some 1 := by kernel_rfl
theorem by_140 : byOf Tryz.prog 140 = some 8 := by kernel_rfl
theorem ag_140 : aggOf Tryz.prog 140 = some false := by kernel_rfl
theorem zc_140 : zcOf Tryz.prog 140 = some [.nilFunc] := by kernel_rfl
theorem sz_141 : szOf Tryz.prog 141 = some 2 := by kernel_rfl
theorem by_141 : byOf Tryz.prog 141 = some 16 := by kernel_rfl
theorem ag_141 : aggOf Tryz.prog 141 = some true := by kernel_rfl
theorem zc_141 : zcOf Tryz.prog 141 = some [.int .i64 0, .int .i64 0] := by kernel_rfl
theorem sa_141 : isAggOf Tryz.prog 141 = true := by kernel_rfl
theorem pl_141 : plOf Tryz.prog 141 = some [(0, 1), (1, 1)] := by kernel_rfl
theorem sz_142 : szOf Tryz.prog 142 = some 1 := by kernel_rfl
theorem by_142 : byOf Tryz.prog 142 = some 8 := by kernel_rfl
theorem ag_142 : aggOf Tryz.prog 142 = some false := by kernel_rfl
theorem zc_142 : zcOf Tryz.prog 142 = some [.nilFunc] := by kernel_rfl
theorem sz_143 : szOf Tryz.prog 143 = some 1 := by kernel_rfl
theorem by_143 : byOf Tryz.prog 143 = some 8 := by kernel_rfl
theorem ag_143 : aggOf Tryz.prog 143 = some false := by kernel_rfl
theorem zc_143 : zcOf Tryz.prog 143 = some [.nilFunc] := by kernel_rfl
theorem sz_144 : szOf Tryz.prog 144 = some 1 := by kernel_rfl
theorem by_144 : byOf Tryz.prog 144 = some 8 := by kernel_rfl
theorem ag_144 : aggOf Tryz.prog 144 = some false := by kernel_rfl
theorem zc_144 : zcOf Tryz.prog 144 = some [.nilFunc] := by kernel_rfl
theorem sz_145 : szOf Tryz.prog 145 = some 1 := by kernel_rfl
theorem by_145 : byOf Tryz.prog 145 = some 8 := by kernel_rfl
theorem ag_145 : aggOf Tryz.prog 145 = some false := by kernel_rfl
theorem zc_145 : zcOf Tryz.prog 145 = some [.nilFunc] := by kernel_rfl
theorem sz_146 : szOf Tryz.prog 146 = some 1 := by kernel_rfl
theorem by_146 : byOf Tryz.prog 146 = some 8 := by kernel_rfl
theorem ag_146 : aggOf Tryz.prog 146 = some false := by kernel_rfl
theorem zc_146 : zcOf Tryz.prog 146 = some [.int .i64 0] := by kernel_rfl
theorem zv_146 : (Tryz.prog.info? 146).bind (·.zero) = some (.int .i64 0) := by kernel_rfl
theorem sz_148 : szOf Tryz.prog 148 = some 1 := by kernel_rfl
theorem by_148 : byOf Tryz.prog 148 = some 8 := by kernel_rfl
theorem ag_148 : aggOf Tryz.prog 148 = some false := by kernel_rfl
theorem zc_148 : zcOf Tryz.prog 148 = some [.nilFunc] := by kernel_rfl
theorem sz_149 : szOf Tryz.prog 149 = some 1 := by kernel_rfl
theorem by_149 : byOf Tryz.prog 149 = some 8 := by kernel_rfl
theorem ag_149 : aggOf Tryz.prog 149 = some false := by kernel_rfl
theorem zc_149 : zcOf Tryz.prog 149 = some [.nilFunc] := by kernel_rfl
theorem sz_150 : szOf Tryz.prog 150 = some 1 := by kernel_rfl
theorem by_150 : byOf Tryz.prog 150 = some 8 := by kernel_rfl
theorem ag_150 : aggOf Tryz.prog 150 = some false := by kernel_rfl
theorem zc_150 : zcOf Tryz.prog 150 = some [.nilFunc] := by kernel_rfl
theorem sz_151 : szOf Tryz.prog 151 = some 1 := by kernel_rfl
theorem by_151 : byOf Tryz.prog 151 = some 8 := by kernel_rfl
theorem ag_151 : aggOf Tryz.prog 151 = some false := by kernel_rfl
theorem zc_151 : zcOf Tryz.prog 151 = some [.nilFunc] := by kernel_rfl
theorem sz_153 : szOf Tryz.prog 153 = some 1 := by kernel_rfl
theorem by_153 : byOf Tryz.prog 153 = some 8 := by kernel_rfl
theorem ag_153 : aggOf Tryz.prog 153 = some false := by kernel_rfl
theorem zc_153 : zcOf Tryz.prog 153 = some [.nilFunc] := by kernel_rfl
theorem sz_154 : szOf Tryz.prog 154 = some 1 := by kernel_rfl
theorem by_154 : byOf Tryz.prog 154 = some 8 := by kernel_rfl
theorem ag_154 : aggOf Tryz.prog 154 = some false := by kernel_rfl
theorem zc_154 : zcOf Tryz.prog 154 = some [.nilFunc] := by kernel_rfl
theorem sz_155 : szOf Tryz.prog 155 = some 1 := by kernel_rfl
theorem by_155 : byOf Tryz.prog 155 = some 4 := by kernel_rfl
theorem ag_155 : aggOf Tryz.prog 155 = some false := by kernel_rfl
theorem zc_155 : zcOf Tryz.prog 155 = some [.int .u32 0] := by kernel_rfl
theorem zv_155 : (Tryz.prog.info? 155).bind (·.zero) = some (.int .u32 0) := by kernel_rfl
theorem sz_156 : szOf Tryz.prog 156 = some 1 := by kernel_rfl
theorem by_156 : byOf Tryz.prog 156 = some 8 := by kernel_rfl
theorem ag_156 : aggOf Tryz.prog 156 = some false := by kernel_rfl
theorem zc_156 : zcOf Tryz.prog 156 = some [.nilFunc] := by kernel_rfl
theorem sz_157 : szOf Tryz.prog 157 = some 1 := by kernel_rfl
theorem by_157 : byOf Tryz.prog 157 = some 8 := by kernel_rfl
theorem ag_157 : aggOf Tryz.prog 157 = some false := by kernel_rfl
theorem zc_157 : zcOf Tryz.prog 157 = some [.int .u64 0] := by kernel_rfl
theorem zv_157 : (Tryz.prog.info? 157).bind (·.zero) = some (.int .u64 0) := by kernel_rfl
theorem sz_158 : szOf Tryz.prog 158 = some 21 := by kernel_rfl
theorem by_158 : byOf Tryz.prog 158 = some 168 := by kernel_rfl
theorem ag_158 : aggOf Tryz.prog 158 = some true := by kernel_rfl
theorem zc_158 : zcOf Tryz.prog 158 = some [.int .i64 0, .int .i64 0, .int .i64 0, .int .i64 0, .int .i64 0, .int .i64 0, .int .i64 0, .int .i64 0, .int .i64 0, .int .i64 0, .int .i64 0, .int .i64 0, .int .i64 0, .int .i64 0, .int .i64 0, .int .i64 0, .int .i64 0, .int .i64 0, .int .i64 0, .int .i64 0, .int .i64 0] := by kernel_rfl
theorem sa_158 : isAggOf Tryz.prog 158 = true := by kernel_rfl
theorem pl_158 : plOf Tryz.prog 158 = some [(0, 3), (3, 3), (6, 3), (9, 3), (12, 3), (15, 3), (18, 3)] := by kernel_rfl
theorem sz_159 : szOf Tryz.prog 159 = some 1 := by kernel_rfl
theorem by_159 : byOf Tryz.prog 159 = some 8 := by kernel_rfl
theorem ag_159 : aggOf Tryz.prog 159 = some false := by kernel_rfl
theorem zc_159 : zcOf Tryz.prog 159 = some [.nilFunc] := by kernel_rfl
theorem sz_160 : szOf Tryz.prog 160 = some 10 := by kernel_rfl
theorem by_160 : byOf Tryz.prog 160 = some 96 := by kernel_rfl
theorem ag_160 : aggOf Tryz.prog 160 = some true := by kernel_rfl
theorem zc_160 : zcOf Tryz.prog 160 = some [.int .i64 0, .int .i64 0, .int .i64 0, .int .i64 0, .int .i64 0, .int .i64 0, .int .i64 0, .slice none 0 0, .int .i64 0, .int .i64 0] := by kernel_rfl
theorem sa_160 : isAggOf Tryz.prog 160 = true := by kernel_rfl
theorem pl_160 : plOf Tryz.prog 160 = some [(0, 7), (7, 1), (8, 1), (9, 1)] := by kernel_rfl
theorem fo_160_0 : foOf Tryz.prog 160 0 = some 0 := by kernel_rfl
theorem fi_160_0 : fiOf Tryz.prog 160 0 = some (0, 7, true) := by kernel_rfl
theorem fo_160_1 : foOf Tryz.prog 160 1 = some 7 := by kernel_rfl
theorem fi_160_1 : fiOf Tryz.prog 160 1 = some (7, 1, false) := by kernel_rfl
theorem fo_160_2 : foOf Tryz.prog 160 2 = some 8 := by kernel_rfl
theorem fi_160_2 : fiOf Tryz.prog 160 2 = some (8, 1, false) := by kernel_rfl
theorem fo_160_3 : foOf Tryz.prog 160 3 = some 9 := by kernel_rfl
theorem fi_160_3 : fiOf Tryz.prog 160 3 = some (9, 1, false) := by kernel_rfl
theorem sz_161 : szOf Tryz.prog 161 = some 10 := by kernel_rfl
theorem by_161 : byOf Tryz.prog 161 = some 96 := by kernel_rfl
theorem ag_161 : aggOf Tryz.prog 161 = some true := by kernel_rfl
theorem zc_161 : zcOf Tryz.prog 161 = some [.int .i64 0, .int .i64 0, .int .i64 0, .int .i64 0, .int .i64 0, .int .i64 0, .int .i64 0, .slice none 0 0, .int .i64 0, .int .i64 0] := by kernel_rfl
theorem sa_161 : isAggOf Tryz.prog 161 = true := by kernel_rfl
theorem pl_161 : plOf Tryz.prog 161 = some [(0, 7), (7, 1), (8, 1), (9, 1)] := by kernel_rfl
theorem fo_161_0 : foOf Tryz.prog 161 0 = some 0 := by kernel_rfl
theorem fi_161_0 : fiOf Tryz.prog 161 0 = some (0, 7, true) := by kernel_rfl
theorem fo_161_1 : foOf Tryz.prog 161 1 = some 7 := by kernel_rfl
theorem fi_161_1 : fiOf Tryz.prog 161 1 = some (7, 1, false) := by kernel_rfl
theorem fo_161_2 : foOf Tryz.prog 161 2 = some 8 := by kernel_rfl
theorem fi_161_2 : fiOf Tryz.prog 161 2 = some (8, 1, false) := by kernel_rfl
theorem fo_161_3 : foOf Tryz.prog 161 3 = some 9 := by kernel_rfl
theorem fi_161_3 : fiOf Tryz.prog 161 3 = some (9, 1, false) := by kernel_rfl
theorem sz_162 : szOf Tryz.prog 162 = some 1 := by kernel_rfl
theorem by_162 : byOf Tryz.prog 162 = some 8 := by kernel_rfl
theorem ag_162 : aggOf Tryz.prog 162 = some false := by kernel_rfl
theorem zc_162 : zcOf Tryz.prog 162 = some [.nilFunc] := by kernel_rfl
theorem sz_163 : szOf Tryz.prog 163 = some 1 := by kernel_rfl
theorem by_163 : byOf Tryz.prog 163 = some 8 := by kernel_rfl
theorem ag_163 : aggOf Tryz.prog 163 = some false := by kernel_rfl
theorem zc_163 : zcOf Tryz.prog 163 = some [.nilFunc] := by kernel_rfl
theorem sz_164 : szOf Tryz.prog 164 = some 1 := by kernel_rfl
theorem by_164 : byOf Tryz.prog 164 = some 8 := by kernel_rfl
theorem ag_164 : aggOf Tryz.prog 164 = some false := by kernel_rfl
theorem zc_164 : zcOf Tryz.prog 164 = some [.nilFunc] := by kernel_rfl
theorem sz_165 : szOf Tryz.prog 165 = some 1 := by kernel_rfl
theorem by_165 : byOf Tryz.prog 165 = some 8 := by kernel_rfl
theorem ag_165 : aggOf Tryz.prog 165 = some false := by kernel_rfl
theorem zc_165 : zcOf Tryz.prog 165 = some [.nilFunc] := by kernel_rfl
theorem sz_166 : szOf Tryz.prog 166 = some 1 := by kernel_rfl
theorem by_166 : byOf Tryz.prog 166 = some 8 := by kernel_rfl
theorem ag_166 : aggOf Tryz.prog 166 = some false := by kernel_rfl
theorem zc_166 : zcOf Tryz.prog 166 = some [.nilFunc] := by kernel_rfl
theorem sz_167 : szOf Tryz.prog 167 = some 1 := by kernel_rfl
theorem by_167 : byOf Tryz.prog 167 = some 8 := by kernel_rfl
theorem ag_167 : aggOf Tryz.prog 167 = some false := by kernel_rfl
theorem zc_167 : zcOf Tryz.prog 167 = some [.pointer none] := by kernel_rfl
theorem sz_168 : szOf Tryz.prog 168 = some 3 := by kernel_rfl
theorem by_168 : byOf Tryz.prog 168 = some 24 := by kernel_rfl
theorem ag_168 : aggOf Tryz.prog 168 = some true := by kernel_rfl
theorem zc_168 : zcOf Tryz.prog 168 = some [.pointer none, .pointer none, .pointer none] := by kernel_rfl
theorem sa_168 : isAggOf Tryz.prog 168 = true := by kernel_rfl
theorem pl_168 : plOf Tryz.prog 168 = some [(0, 1), (1, 1), (2, 1)] := by kernel_rfl
theorem fo_168_0 : foOf Tryz.prog 168 0 = some 0 := by kernel_rfl
theorem fi_168_0 : fiOf Tryz.prog 168 0 = some (0, 1, false) := by kernel_rfl
theorem fo_168_1 : foOf Tryz.prog 168 1 = some 1 := by kernel_rfl
theorem fi_168_1 : fiOf Tryz.prog 168 1 = some (1, 1, false) := by kernel_rfl
theorem fo_168_2 : foOf Tryz.prog 168 2 = some 2 := by kernel_rfl
theorem fi_168_2 : fiOf Tryz.prog 168 2 = some (2, 1, false) := by kernel_rfl
theorem sz_169 : szOf Tryz.prog 169 = some 3 := by kernel_rfl
theorem by_169 : byOf Tryz.prog 169 = some 24 := by kernel_rfl
theorem ag_169 : aggOf Tryz.prog 169 = some true := by kernel_rfl
theorem zc_169 : zcOf Tryz.prog 169 = some [.pointer none, .pointer none, .pointer none] := by kernel_rfl
theorem sa_169 : isAggOf Tryz.prog 169 = true := by kernel_rfl
theorem pl_169 : plOf Tryz.prog 169 = some [(0, 1), (1, 1), (2, 1)] := by kernel_rfl
theorem fo_169_0 : foOf Tryz.prog 169 0 = some 0 := by kernel_rfl
theorem fi_169_0 : fiOf Tryz.prog 169 0 = some (0, 1, false) := by kernel_rfl
theorem fo_169_1 : foOf Tryz.prog 169 1 = some 1 := by kernel_rfl
theorem fi_169_1 : fiOf Tryz.prog 169 1 = some (1, 1, false) := by kernel_rfl
theorem fo_169_2 : foOf Tryz.prog 169 2 = some 2 := by kernel_rfl
theorem fi_169_2 : fiOf Tryz.prog 169 2 = some (2, 1, false) := by kernel_rfl
theorem sz_170 : szOf Tryz.prog 170 = some 1 := by kernel_rfl
theorem by_170 : byOf Tryz.prog 170 = some 8 := by kernel_rfl
theorem ag_170 : aggOf Tryz.prog 170 = some false := by kernel_rfl
theorem zc_170 : zcOf Tryz.prog 170 = some [.nilFunc] := by kernel_rfl
theorem sz_171 : szOf Tryz.prog 171 = some 1 := by kernel_rfl
theorem by_171 : byOf Tryz.prog 171 = some 8 := by kernel_rfl
theorem ag_171 : aggOf Tryz.prog 171 = some false := by kernel_rfl
theorem zc_171 : zcOf Tryz.prog 171 = some [.nilFunc] := by kernel_rfl
theorem sz_172 : szOf Tryz.prog 172 = some 1 := by kernel_rfl
theorem by_172 : byOf Tryz.prog 172 = some 8 := by kernel_rfl
theorem ag_172 : aggOf Tryz.prog 172 = some false := by kernel_rfl
theorem zc_172 : zcOf Tryz.prog 172 = some [.nilFunc] := by kernel_rfl
theorem sz_173 : szOf Tryz.prog 173 = some 1 := by kernel_rfl
theorem by_173 : byOf Tryz.prog 173 = some 8 := by kernel_rfl
theorem ag_173 : aggOf Tryz.prog 173 = some false := by kernel_rfl
theorem zc_173 : zcOf Tryz.prog 173 = some [.nilFunc] := by kernel_rfl
theorem sz_174 : szOf Tryz.prog 174 = some 1 := by kernel_rfl
theorem by_174 : byOf Tryz.prog 174 = some 8 := by kernel_rfl
theorem ag_174 : aggOf Tryz.prog 174 = some false := by kernel_rfl
theorem zc_174 : zcOf Tryz.prog 174 = some [.nilFunc] := by kernel_rfl
theorem sz_175 : szOf Tryz.prog 175 = some 1 := by kernel_rfl
theorem by_175 : byOf Tryz.prog 175 = some 8 := by kernel_rfl
theorem ag_175 : aggOf Tryz.prog 175 = some false := by kernel_rfl
theorem zc_175 : zcOf Tryz.prog 175 = some [.nilFunc] := by kernel_rfl
theorem sz_176 : szOf Tryz.prog 176 = some 1 := by kernel_rfl
theorem by_176 : byOf Tryz.prog 176 = some 8 := by kernel_rfl
theorem ag_176 : aggOf Tryz.prog 176 = some false := by kernel_rfl
theorem zc_176 : zcOf Tryz.prog 176 = some [.nilFunc] := by kernel_rfl
theorem sz_177 : szOf Tryz.prog 177 = some 1 := by kernel_rfl
theorem by_177 : byOf Tryz.prog 177 = some 8 := by kernel_rfl
theorem ag_177 : aggOf Tryz.prog 177 = some false := by kernel_rfl
theorem zc_177 : zcOf Tryz.prog 177 = some [.nilFunc] := by kernel_rfl
theorem sz_178 : szOf Tryz.prog 178 = some 1 := by kernel_rfl
theorem by_178 : byOf Tryz.prog 178 = some 8 := by kernel_rfl
theorem ag_178 : aggOf Tryz.prog 178 = some false := by kernel_rfl
theorem zc_178 : zcOf Tryz.prog 178 = some [.nilFunc] := by kernel_rfl
theorem sz_179 : szOf Tryz.prog 179 = some 1 := by kernel_rfl
theorem by_179 : byOf Tryz.prog 179 = some 8 := by kernel_rfl
theorem ag_179 : aggOf Tryz.prog 179 = some false := by kernel_rfl
theorem zc_179 : zcOf Tryz.prog 179 = some [.nilFunc] := by kernel_rfl
theorem sz_180 : szOf Tryz.prog 180 = some 2 := by kernel_rfl
theorem by_180 : byOf Tryz.prog 180 = some 16 := by kernel_rfl
theorem ag_180 : aggOf Tryz.prog 180 = some true := by kernel_rfl
theorem zc_180 : zcOf Tryz.prog 180 = some [.int .i64 0, .int .i64 0] := by kernel_rfl
theorem sa_180 : isAggOf Tryz.prog 180 = true := by kernel_rfl
theorem pl_180 : plOf Tryz.prog 180 = some [(0, 1), (1, 1)] := by kernel_rfl
theorem fo_180_0 : foOf Tryz.prog 180 0 = some 0 := by kernel_rfl
theorem fi_180_0 : fiOf Tryz.prog 180 0 = some (0, 1, false) := by kernel_rfl
theorem fo_180_1 : foOf Tryz.prog 180 1 = some 1 := by kernel_rfl
theorem fi_180_1 : fiOf Tryz.prog 180 1 = some (1, 1, false) := by kernel_rfl
theorem sz_181 : szOf Tryz.prog 181 = some 2 := by kernel_rfl
theorem by_181 : byOf Tryz.prog 181 = some 16 := by kernel_rfl
theorem ag_181 : aggOf Tryz.prog 181 = some true := by kernel_rfl
theorem zc_181 : zcOf Tryz.prog 181 = some [.int .i64 0, .int .i64 0] := by kernel_rfl
theorem sa_181 : isAggOf Tryz.prog 181 = true := by kernel_rfl
theorem pl_181 : plOf Tryz.prog 181 = some [(0, 1), (1, 1)] := by kernel_rfl
theorem fo_181_0 : foOf Tryz.prog 181 0 = some 0 := by kernel_rfl
theorem fi_181_0 : fiOf Tryz.prog 181 0 = some (0, 1, false) := by kernel_rfl
theorem fo_181_1 : foOf Tryz.prog 181 1 = some 1 := by kernel_rfl
theorem fi_181_1 : fiOf Tryz.prog 181 1 = some (1, 1, false) := by kernel_rfl
theorem sz_182 : szOf Tryz.prog 182 = some 1 := by kernel_rfl
theorem by_182 : byOf Tryz.prog 182 = some 8 := by kernel_rfl
theorem ag_182 : aggOf Tryz.prog 182 = some false := by kernel_rfl
theorem zc_182 : zcOf Tryz.prog 182 = some [.nilFunc] := by kernel_rfl
theorem sz_183 : szOf Tryz.prog 183 = some 1 := by kernel_rfl
theorem by_183 : byOf Tryz.prog 183 = some 24 := by kernel_rfl
theorem ag_183 : aggOf Tryz.prog 183 = some false := by kernel_rfl
theorem zc_183 : zcOf Tryz.prog 183 = some [.slice none 0 0] := by kernel_rfl
theorem sz_184 : szOf Tryz.prog 184 = some 1 := by kernel_rfl
theorem by_184 : byOf Tryz.prog 184 = some 8 := by kernel_rfl
theorem ag_184 : aggOf Tryz.prog 184 = some false := by kernel_rfl
theorem zc_184 : zcOf Tryz.prog 184 = some [.nilFunc] := by kernel_rfl
theorem sz_185 : szOf Tryz.prog 185 = some 1 := by kernel_rfl
theorem by_185 : byOf Tryz.prog 185 = some 8 := by kernel_rfl
theorem ag_185 : aggOf Tryz.prog 185 = some false := by kernel_rfl
theorem zc_185 : zcOf Tryz.prog 185 = some [.nilFunc] := by kernel_rfl
theorem sz_186 : szOf Tryz.prog 186 = some 1 := by kernel_rfl
theorem by_186 : byOf Tryz.prog 186 = some 8 := by kernel_rfl
theorem ag_186 : aggOf Tryz.prog 186 = some false := by kernel_rfl
theorem zc_186 : zcOf Tryz.prog 186 = some [.nilFunc] := by kernel_rfl
theorem sz_187 : szOf Tryz.prog 187 = some 1 := by kernel_rfl
theorem by_187 : byOf Tryz.prog 187 = some 8 := by kernel_rfl
theorem ag_187 : aggOf Tryz.prog 187 = some false := by kernel_rfl
theorem zc_187 : zcOf Tryz.prog 187 = some [.int .u64 0] := by kernel_rfl
theorem zv_187 : (Tryz.prog.info? 187).bind (·.zero) = some (.int .u64 0) := by kernel_rfl
theorem sz_188 : szOf Tryz.prog 188 = some 1 := by kernel_rfl
theorem by_188 : byOf Tryz.prog 188 = some 8 := by kernel_rfl
theorem ag_188 : aggOf Tryz.prog 188 = some false := by kernel_rfl
theorem zc_188 : zcOf Tryz.prog 188 = some [.nilFunc] := by kernel_rfl
theorem sz_189 : szOf Tryz.prog 189 = some 1 := by kernel_rfl
theorem by_189 : byOf Tryz.prog 189 = some 8 := by kernel_rfl
theorem ag_189 : aggOf Tryz.prog 189 = some false := by kernel_rfl
theorem zc_189 : zcOf Tryz.prog 189 = some [.nilFunc] := by kernel_rfl
theorem sz_190 : szOf Tryz.prog 190 = some 1 := by kernel_rfl
theorem by_190 : byOf Tryz.prog 190 = some 8 := by kernel_rfl
theorem ag_190 : aggOf Tryz.prog 190 = some false := by kernel_rfl
theorem zc_190 : zcOf Tryz.prog 190 = some [.nilFunc] := by kernel_rfl
theorem sz_191 : szOf Tryz.prog 191 = some 1 := by kernel_rfl
theorem by_191 : byOf Tryz.prog 191 = some 8 := by kernel_rfl
theorem ag_191 : aggOf Tryz.prog 191 = some false := by kernel_rfl
theorem zc_191 : zcOf Tryz.prog 191 = some [.pointer none] := by kernel_rfl
theorem sz_192 : szOf Tryz.prog 192 = some 1 := by kernel_rfl
theorem by_192 : byOf Tryz.prog 192 = some 8 := by kernel_rfl
theorem ag_192 : aggOf Tryz.prog 192 = some false := by kernel_rfl
theorem zc_192 : zcOf Tryz.prog 192 = some [.nilFunc] := by kernel_rfl
theorem sz_193 : szOf Tryz.prog 193 = some 1 := by kernel_rfl
theorem by_193 : byOf Tryz.prog 193 = some 8 := by kernel_rfl
theorem ag_193 : aggOf Tryz.prog 193 = some false := by kernel_rfl
theorem zc_193 : zcOf Tryz.prog 193 = some [.nilFunc] := by kernel_rfl
theorem sz_194 : szOf Tryz.prog 194 = some 1 := by kernel_rfl
theorem by_194 : byOf Tryz.prog 194 = some 8 := by kernel_rfl
theorem ag_194 : aggOf Tryz.prog 194 = some false := by kernel_rfl
theorem zc_194 : zcOf Tryz.prog 194 = some [.nilFunc] := by kernel_rfl
theorem sz_195 : szOf Tryz.prog 195 = some 1 := by kernel_rfl
theorem by_195 : byOf Tryz.prog 195 = some 8 := by kernel_rfl
theorem ag_195 : aggOf Tryz.prog 195 = some false := by kernel_rfl
theorem zc_195 : zcOf Tryz.prog 195 = some [.nilFunc] := by kernel_rfl
theorem sz_196 : szOf Tryz.prog 196 = some 1 := by kernel_rfl
theorem by_196 : byOf Tryz.prog 196 = some 8 := by kernel_rfl
theorem ag_196 : aggOf Tryz.prog 196 = some false := by kernel_rfl
theorem zc_196 : zcOf Tryz.prog 196 = some [.nilFunc] := by kernel_rfl
theorem sz_197 : szOf Tryz.prog 197 = some 1 := by kernel_rfl
theorem by_197 : byOf Tryz.prog 197 = some 8 := by kernel_rfl
theorem ag_197 : aggOf Tryz.prog 197 = some false := by kernel_rfl
theorem zc_197 : zcOf Tryz.prog 197 = some [.nilFunc] := by kernel_rfl
theorem sz_198 : szOf Tryz.prog 198 = some 1 := by kernel_rfl
theorem by_198 : byOf Tryz.prog 198 = some 8 := by kernel_rfl
theorem ag_198 : aggOf Tryz.prog 198 = some false := by kernel_rfl
theorem zc_198 : zcOf Tryz.prog 198 = some [.nilFunc] := by kernel_rfl
theorem sz_199 : szOf Tryz.prog 199 = some 6 := by kernel_rfl
theorem by_199 : byOf Tryz.prog 199 = some 48 := by kernel_rfl
theorem ag_199 : aggOf Tryz.prog 199 = some true := by kernel_rfl
theorem zc_199 : zcOf Tryz.prog 199 = some [.nilFunc, .nilFunc, .nilFunc, .nilFunc, .nilFunc, .nilFunc] := by kernel_rfl
theorem sa_199 : isAggOf Tryz.prog 199 = true := by kernel_rfl
theorem pl_199 : plOf Tryz.prog 199 = some [(0, 1), (1, 1), (2, 1), (3, 1), (4, 1), (5, 1)] := by kernel_rfl
theorem sz_200 : szOf Tryz.prog 200 = some 1 := by kernel_rfl
theorem by_200 : byOf Tryz.prog 200 = some 8 := by kernel_rfl
theorem ag_200 : aggOf Tryz.prog 200 = some false := by kernel_rfl
theorem zc_200 : zcOf Tryz.prog 200 = some [.nilFunc] := by kernel_rfl
theorem sz_201 : szOf Tryz.prog 201 = some 1 := by kernel_rfl
theorem by_201 : byOf Tryz.prog 201 = some 8 := by kernel_rfl
theorem ag_201 : aggOf Tryz.prog 201 = some false := by kernel_rfl
theorem zc_201 : zcOf Tryz.prog 201 = some [.nilFunc] := by kernel_rfl
theorem sz_202 : szOf Tryz.prog 202 = some 1 := by kernel_rfl
theorem by_202 : byOf Tryz.prog 202 = some 8 := by kernel_rfl
theorem ag_202 : aggOf Tryz.prog 202 = some false := by kernel_rfl
theorem zc_202 : zcOf Tryz.prog 202 = some [.pointer none] := by kernel_rfl
theorem sz_203 : szOf Tryz.prog 203 = some 8 := by kernel_rfl
theorem by_203 : byOf Tryz.prog 203 = some 64 := by kernel_rfl
theorem ag_203 : aggOf Tryz.prog 203 = some true := by kernel_rfl
theorem zc_203 : zcOf Tryz.prog 203 = some [.int .i64 0, .int .i64 0, .int .i64 0, .int .i64 0, .int .i64 0, .int .i64 0, .int .i64 0, .int .i64 0] := by kernel_rfl
theorem sa_203 : isAggOf Tryz.prog 203 = true := by kernel_rfl
theorem pl_203 : plOf Tryz.prog 203 = some [(0, 1), (1, 1), (2, 1), (3, 1), (4, 1), (5, 1), (6, 1), (7, 1)] := by kernel_rfl
theorem sz_204 : szOf Tryz.prog 204 = some 9 := by kernel_rfl
theorem by_204 : byOf Tryz.prog 204 = some 72 := by kernel_rfl
theorem ag_204 : aggOf Tryz.prog 204 = some true := by kernel_rfl
theorem zc_204 : zcOf Tryz.prog 204 = some [.int .i64 0, .int .i64 0, .int .i64 0, .int .i64 0, .int .i64 0, .int .i64 0, .int .i64 0, .int .i64 0, .int .i64 0] := by kernel_rfl
theorem sa_204 : isAggOf Tryz.prog 204 = true := by kernel_rfl
theorem pl_204 : plOf Tryz.prog 204 = some [(0, 8), (8, 1)] := by kernel_rfl
theorem fo_204_0 : foOf Tryz.prog 204 0 = some 0 := by kernel_rfl
theorem fi_204_0 : fiOf Tryz.prog 204 0 = some (0, 8, true) := by kernel_rfl
theorem fo_204_1 : foOf Tryz.prog 204 1 = some 8 := by kernel_rfl
theorem fi_204_1 : fiOf Tryz.prog 204 1 = some (8, 1, false) := by kernel_rfl
theorem sz_205 : szOf Tryz.prog 205 = some 9 := by kernel_rfl
theorem by_205 : byOf Tryz.prog 205 = some 72 := by kernel_rfl
theorem ag_205 : aggOf Tryz.prog 205 = some true := by kernel_rfl
theorem zc_205 : zcOf Tryz.prog 205 = some [.int .i64 0, .int .i64 0, .int .i64 0, .int .i64 0, .int .i64 0, .int .i64 0, .int .i64 0, .int .i64 0, .int .i64 0] := by kernel_rfl
theorem sa_205 : isAggOf Tryz.prog 205 = true := by kernel_rfl
theorem pl_205 : plOf Tryz.prog 205 = some [(0, 8), (8, 1)] := by kernel_rfl
theorem fo_205_0 : foOf Tryz.prog 205 0 = some 0 := by kernel_rfl
theorem fi_205_0 : fiOf Tryz.prog 205 0 = some (0, 8, true) := by kernel_rfl
theorem fo_205_1 : foOf Tryz.prog 205 1 = some 8 := by kernel_rfl
theorem fi_205_1 : fiOf Tryz.prog 205 1 = some (8, 1, false) := by kernel_rfl
theorem sz_206 : szOf Tryz.prog 206 = some 21 := by kernel_rfl
theorem by_206 : byOf Tryz.prog 206 = some 200 := by kernel_rfl
theorem ag_206 : aggOf Tryz.prog 206 = some true := by kernel_rfl
theorem zc_206 : zcOf Tryz.prog 206 = some [.int .i64 0, .int .i64 0, .int .i64 0, .int .i64 0, .int .i64 0, .int .i64 0, .int .i64 0, .int .i64 0, .int .i64 0, .int .i64 0, .int .i64 0, .int .i64 0, .int .i64 0, .int .i64 0, .int .i64 0, .int .i64 0, .int .i64 0, .int .i64 0, .slice none 0 0, .slice none 0 0, .int .i64 0] := by kernel_rfl
theorem sa_206 : isAggOf Tryz.prog 206 = true := by kernel_rfl
theorem pl_206 : plOf Tryz.prog 206 = some [(0, 9), (9, 9), (18, 3)] := by kernel_rfl
theorem fo_206_0 : foOf Tryz.prog 206 0 = some 0 := by kernel_rfl
theorem fi_206_0 : fiOf Tryz.prog 206 0 = some (0, 9, true) := by kernel_rfl
theorem fo_206_1 : foOf Tryz.prog 206 1 = some 9 := by kernel_rfl
theorem fi_206_1 : fiOf Tryz.prog 206 1 = some (9, 9, true) := by kernel_rfl
theorem fo_206_2 : foOf Tryz.prog 206 2 = some 18 := by kernel_rfl
theorem fi_206_2 : fiOf Tryz.prog 206 2 = some (18, 3, true) := by kernel_rfl
theorem sz_207 : szOf Tryz.prog 207 = some 21 := by kernel_rfl
theorem by_207 : byOf Tryz.prog 207 = some 200 := by kernel_rfl
theorem ag_207 : aggOf Tryz.prog 207 = some true := by kernel_rfl
theorem zc_207 : zcOf Tryz.prog 207 = some [.int .i64 0, .int .i64 0, .int .i64 0, .int .i64 0, .int .i64 0, .int .i64 0, .int .i64 0, .int .i64 0, .int .i64 0, .int .i64 0, .int .i64 0, .int .i64 0, .int .i64 0, .int .i64 0, .int .i64 0, .int .i64 0, .int .i64 0, .int .i64 0, .slice none 0 0, .slice none 0 0, .int .i64 0] := by kernel_rfl
theorem sa_207 : isAggOf Tryz.prog 207 = true := by kernel_rfl
theorem pl_207 : plOf Tryz.prog 207 = some [(0, 9), (9, 9), (18, 3)] := by kernel_rfl
theorem fo_207_0 : foOf Tryz.prog 207 0 = some 0 := by kernel_rfl
theorem fi_207_0 : fiOf Tryz.prog 207 0 = some (0, 9, true) := by kernel_rfl
theorem fo_207_1 : foOf Tryz.prog 207 1 = some 9 := by kernel_rfl
theorem fi_207_1 : fiOf Tryz.prog 207 1 = some (9, 9, true) := by kernel_rfl
theorem fo_207_2 : foOf Tryz.prog 207 2 = some 18 := by kernel_rfl
theorem fi_207_2 : fiOf Tryz.prog 207 2 = some (18, 3, true) := by kernel_rfl
theorem sz_208 : szOf Tryz.prog 208 = some 1 := by kernel_rfl
theorem by_208 : byOf Tryz.prog 208 = some 8 := by kernel_rfl
theorem ag_208 : aggOf Tryz.prog 208 = some false := by kernel_rfl
theorem zc_208 : zcOf Tryz.prog 208 = some [.nilFunc] := by kernel_rfl
theorem sz_209 : szOf Tryz.prog 209 = some 1 := by kernel_rfl
theorem by_209 : byOf Tryz.prog 209 = some 8 := by kernel_rfl
theorem ag_209 : aggOf Tryz.prog 209 = some false := by kernel_rfl
theorem zc_209 : zcOf Tryz.prog 209 = some [.nilFunc] := by kernel_rfl
theorem sz_210 : szOf Tryz.prog 210 = some 1 := by kernel_rfl
theorem by_210 : byOf Tryz.prog 210 = some 8 := by kernel_rfl
theorem ag_210 : aggOf Tryz.prog 210 = some false := by kernel_rfl
theorem zc_210 : zcOf Tryz.prog 210 = some [.nilFunc] := by kernel_rfl
theorem sz_211 : szOf Tryz.prog 211 = some 1 := by kernel_rfl
theorem by_211 : byOf Tryz.prog 211 = some 8 := by kernel_rfl
theorem ag_211 : aggOf Tryz.prog 211 = some false := by kernel_rfl
theorem zc_211 : zcOf Tryz.prog 211 = some [.map none] := by kernel_rfl
theorem sz_212 : szOf Tryz.prog 212 = some 1 := by kernel_rfl
theorem by_212 : byOf Tryz.prog 212 = some 8 := by kernel_rfl
theorem ag_212 : aggOf Tryz.prog 212 = some false := by kernel_rfl
theorem zc_212 : zcOf Tryz.prog 212 = some [.nilFunc] := by kernel_rfl
theorem sz_213 : szOf Tryz.prog 213 = some 1 := by kernel_rfl
theorem by_213 : byOf Tryz.prog 213 = some 8 := by kernel_rfl
theorem ag_213 : aggOf Tryz.prog 213 = some false := by kernel_rfl
theorem zc_213 : zcOf Tryz.prog 213 = some [.nilFunc] := by kernel_rfl
theorem sz_214 : szOf Tryz.prog 214 = some 1 := by kernel_rfl
theorem by_214 : byOf Tryz.prog 214 = some 8 := by kernel_rfl
theorem ag_214 : aggOf Tryz.prog 214 = some false := by kernel_rfl
theorem zc_214 : zcOf Tryz.prog 214 = some [.nilFunc] := by kernel_rfl
theorem sz_215 : szOf Tryz.prog 215 = some 1 := by kernel_rfl
theorem by_215 : byOf Tryz.prog 215 = some 8 := by kernel_rfl
theorem ag_215 : aggOf Tryz.prog 215 = some false := by kernel_rfl
theorem zc_215 : zcOf Tryz.prog 215 = some [.nilFunc] := by kernel_rfl
theorem sz_216 : szOf Tryz.prog 216 = some 1 := by kernel_rfl
theorem by_216 : byOf Tryz.prog 216 = some 8 := by kernel_rfl
theorem ag_216 : aggOf Tryz.prog 216 = some false := by kernel_rfl
theorem zc_216 : zcOf Tryz.prog 216 = some [.nilFunc] := by kernel_rfl
theorem sz_217 : szOf Tryz.prog 217 = some 1 := by kernel_rfl
theorem by_217 : byOf Tryz.prog 217 = some 8 := by kernel_rfl
theorem ag_217 : aggOf Tryz.prog 217 = some false := by kernel_rfl
theorem zc_217 : zcOf Tryz.prog 217 = some [.nilFunc] := by kernel_rfl
theorem sz_218 : szOf Tryz.prog 218 = some 1 := by kernel_rfl
theorem by_218 : byOf Tryz.prog 218 = some 8 := by kernel_rfl
theorem ag_218 : aggOf Tryz.prog 218 = some false := by kernel_rfl
theorem zc_218 : zcOf Tryz.prog 218 = some [.pointer none] := by kernel_rfl
theorem sz_219 : szOf Tryz.prog 219 = some 1 := by kernel_rfl
theorem by_219 : byOf Tryz.prog 219 = some 8 := by kernel_rfl
theorem ag_219 : aggOf Tryz.prog 219 = some false := by kernel_rfl
theorem zc_219 : zcOf Tryz.prog 219 = some [.nilFunc] := by kernel_rfl
theorem sz_220 : szOf Tryz.prog 220 = some 1 := by kernel_rfl
theorem by_220 : byOf Tryz.prog 220 = some 8 := by kernel_rfl
theorem ag_220 : aggOf Tryz.prog 220 = some false := by kernel_rfl
theorem zc_220 : zcOf Tryz.prog 220 = some [.nilFunc] := by kernel_rfl
theorem sz_221 : szOf Tryz.prog 221 = some 1 := by kernel_rfl
theorem by_221 : byOf Tryz.prog 221 = some 8 := by kernel_rfl
theorem ag_221 : aggOf Tryz.prog 221 = some false := by kernel_rfl
theorem zc_221 : zcOf Tryz.prog 221 = some [.nilFunc] := by kernel_rfl
theorem sz_222 : szOf Tryz.prog 222 = some 1 := by kernel_rfl
theorem by_222 : byOf Tryz.prog 222 = some 8 := by kernel_rfl
theorem ag_222 : aggOf Tryz.prog 222 = some false := by kernel_rfl
theorem zc_222 : zcOf Tryz.prog 222 = some [.nilFunc] := by kernel_rfl
theorem sz_223 : szOf Tryz.prog 223 = some 1 := by kernel_rfl
theorem by_223 : byOf Tryz.prog 223 = some 8 := by kernel_rfl
theorem ag_223 : aggOf Tryz.prog 223 = some false := by kernel_rfl
theorem zc_223 : zcOf Tryz.prog 223 = some [.pointer none] := by kernel_rfl
theorem sz_224 : szOf Tryz.prog 224 = some 1 := by kernel_rfl
theorem by_224 : byOf Tryz.prog 224 = some 8 := by kernel_rfl
theorem ag_224 : aggOf Tryz.prog 224 = some false := by kernel_rfl
theorem zc_224 : zcOf Tryz.prog 224 = some [.nilFunc] := by kernel_rfl
theorem sz_225 : szOf Tryz.prog 225 = some 1 := by kernel_rfl
theorem by_225 : byOf Tryz.prog 225 = some 8 := by kernel_rfl
theorem ag_225 : aggOf Tryz.prog 225 = some false := by kernel_rfl
theorem zc_225 : zcOf Tryz.prog 225 = some [.nilFunc] := by kernel_rfl
theorem sz_226 : szOf Tryz.prog 226 = some 1 := by kernel_rfl
theorem by_226 : byOf Tryz.prog 226 = some 8 := by kernel_rfl
theorem ag_226 : aggOf Tryz.prog 226 = some false := by kernel_rfl
theorem zc_226 : zcOf Tryz.prog 226 = some [.nilFunc] := by kernel_rfl
theorem sz_227 : szOf Tryz.prog 227 = some 1 := by kernel_rfl
theorem by_227 : byOf Tryz.prog 227 = some 8 := by kernel_rfl
theorem ag_227 : aggOf Tryz.prog 227 = some false := by kernel_rfl
theorem zc_227 : zcOf Tryz.prog 227 = some [.nilFunc] := by kernel_rfl
theorem sz_228 : szOf Tryz.prog 228 = some 1 := by kernel_rfl
theorem by_228 : byOf Tryz.prog 228 = some 8 := by kernel_rfl
theorem ag_228 : aggOf Tryz.prog 228 = some false := by kernel_rfl
theorem zc_228 : zcOf Tryz.prog 228 = some [.nilFunc] := by kernel_rfl
theorem sz_229 : szOf Tryz.prog 229 = some 1 := by kernel_rfl
theorem by_229 : byOf Tryz.prog 229 = some 8 := by kernel_rfl
theorem ag_229 : aggOf Tryz.prog 229 = some false := by kernel_rfl
theorem zc_229 : zcOf Tryz.prog 229 = some [.nilFunc] := by kernel_rfl
theorem sz_230 : szOf Tryz.prog 230 = some 1 := by kernel_rfl
theorem by_230 : byOf Tryz.prog 230 = some 8 := by kernel_rfl
theorem ag_230 : aggOf Tryz.prog 230 = some false := by kernel_rfl
theorem zc_230 : zcOf Tryz.prog 230 = some [.nilFunc] := by kernel_rfl
theorem sz_231 : szOf Tryz.prog 231 = some 256 := by kernel_rfl
theorem by_231 : byOf Tryz.prog 231 = some 256 := by kernel_rfl
theorem ag_231 : aggOf Tryz.prog 231 = some true := by kernel_rfl
theorem sz_232 : szOf Tryz.prog 232 = some 256 := by kernel_rfl
theorem by_232 : byOf Tryz.prog 232 = some 256 := by kernel_rfl
theorem ag_232 : aggOf Tryz.prog 232 = some true := by kernel_rfl
theorem sz_234 : szOf Tryz.prog 234 = some 1 := by kernel_rfl
theorem by_234 : byOf Tryz.prog 234 = some 8 := by kernel_rfl
theorem ag_234 : aggOf Tryz.prog 234 = some false := by kernel_rfl
theorem zc_234 : zcOf Tryz.prog 234 = some [.nilFunc] := by kernel_rfl
theorem sz_235 : szOf Tryz.prog 235 = some 1 := by kernel_rfl
theorem by_235 : byOf Tryz.prog 235 = some 8 := by kernel_rfl
theorem ag_235 : aggOf Tryz.prog 235 = some false := by kernel_rfl
theorem zc_235 : zcOf Tryz.prog 235 = some [.nilFunc] := by kernel_rfl
theorem sz_236 : szOf Tryz.prog 236 = some 1 := by kernel_rfl
theorem by_236 : byOf Tryz.prog 236 = some 8 := by kernel_rfl
theorem ag_236 : aggOf Tryz.prog 236 = some false := by kernel_rfl
theorem zc_236 : zcOf Tryz.prog 236 = some [.pointer none] := by kernel_rfl
theorem sz_237 : szOf Tryz.prog 237 = some 1 := by kernel_rfl
theorem by_237 : byOf Tryz.prog 237 = some 8 := by kernel_rfl
theorem ag_237 : aggOf Tryz.prog 237 = some false := by kernel_rfl
theorem zc_237 : zcOf Tryz.prog 237 = some [.nilFunc] := by kernel_rfl
theorem sz_239 : szOf Tryz.prog 239 = some 1 := by kernel_rfl
theorem by_239 : byOf Tryz.prog 239 = some 8 := by kernel_rfl
theorem ag_239 : aggOf Tryz.prog 239 = some false := by kernel_rfl
theorem zc_239 : zcOf Tryz.prog 239 = some [.nilFunc] := by kernel_rfl
theorem sz_240 : szOf Tryz.prog 240 = some 1 := by kernel_rfl
theorem by_240 : byOf Tryz.prog 240 = some 8 := by kernel_rfl
theorem ag_240 : aggOf Tryz.prog 240 = some false := by kernel_rfl
theorem zc_240 : zcOf Tryz.prog 240 = some [.nilFunc] := by kernel_rfl
theorem sz_241 : szOf Tryz.prog 241 = some 1 := by kernel_rfl
theorem by_241 : byOf Tryz.prog 241 = some 8 := by kernel_rfl
theorem ag_241 : aggOf Tryz.prog 241 = some false := by kernel_rfl
theorem zc_241 : zcOf Tryz.prog 241 = some [.nilFunc] := by kernel_rfl
theorem sz_242 : szOf Tryz.prog 242 = some 256 := by kernel_rfl
theorem by_242 : byOf Tryz.prog 242 = some 256 := by kernel_rfl
theorem ag_242 : aggOf Tryz.prog 242 = some true := by kernel_rfl
theorem sz_243 : szOf Tryz.prog 243 = some 2 := by kernel_rfl
theorem by_243 : byOf Tryz.prog 243 = some 2 := by kernel_rfl
theorem ag_243 : aggOf Tryz.prog 243 = some true := by kernel_rfl
theorem zc_243 : zcOf Tryz.prog 243 = some [.int .u8 0, .int .u8 0] := by kernel_rfl
theorem sa_243 : isAggOf Tryz.prog 243 = true := by kernel_rfl
theorem pl_243 : plOf Tryz.prog 243 = some [(0, 1), (1, 1)] := by kernel_rfl
theorem fo_243_0 : foOf Tryz.prog 243 0 = some 0 := by kernel_rfl
theorem fi_243_0 : fiOf Tryz.prog 243 0 = some (0, 1, false) := by kernel_rfl
theorem fo_243_1 : foOf Tryz.prog 243 1 = some 1 := by kernel_rfl
theorem fi_243_1 : fiOf Tryz.prog 243 1 = some (1, 1, false) := by kernel_rfl
theorem sz_244 : szOf Tryz.prog 244 = some 2 := by kernel_rfl
theorem by_244 : byOf Tryz.prog 244 = some 2 := by kernel_rfl
theorem ag_244 : aggOf Tryz.prog 244 = some true := by kernel_rfl
theorem zc_244 : zcOf Tryz.prog 244 = some [.int .u8 0, .int .u8 0] := by kernel_rfl
theorem sa_244 : isAggOf Tryz.prog 244 = true := by kernel_rfl
theorem pl_244 : plOf Tryz.prog 244 = some [(0, 1), (1, 1)] := by kernel_rfl
theorem fo_244_0 : foOf Tryz.prog 244 0 = some 0 := by kernel_rfl
theorem fi_244_0 : fiOf Tryz.prog 244 0 = some (0, 1, false) := by kernel_rfl
theorem fo_244_1 : foOf Tryz.prog 244 1 = some 1 := by kernel_rfl
theorem fi_244_1 : fiOf Tryz.prog 244 1 = some (1, 1, false) := by kernel_rfl
theorem sz_245 : szOf Tryz.prog 245 = some 32 := by kernel_rfl
theorem by_245 : byOf Tryz.prog 245 = some 32 := by kernel_rfl
theorem ag_245 : aggOf Tryz.prog 245 = some true := by kernel_rfl
theorem zc_245 : zcOf Tryz.prog 245 = some [.int .u8 0, .int .u8 0, .int .u8 0, .int .u8 0, .int .u8 0, .int .u8 0, .int .u8 0, .int .u8 0, .int .u8 0, .int .u8 0, .int .u8 0, .int .u8 0, .int .u8 0, .int .u8 0, .int .u8 0, .int .u8 0, .int .u8 0, .int .u8 0, .int .u8 0, .int .u8 0, .int .u8 0, .int .u8 0, .int .u8 0, .int .u8 0, .int .u8 0, .int .u8 0, .int .u8 0, .int .u8 0, .int .u8 0, .int .u8 0, .int .u8 0, .int .u8 0] := by kernel_rfl
theorem sa_245 : isAggOf Tryz.prog 245 = true := by kernel_rfl
theorem pl_245 : plOf Tryz.prog 245 = some [(0, 2), (2, 2), (4, 2), (6, 2), (8, 2), (10, 2), (12, 2), (14, 2), (16, 2), (18, 2), (20, 2), (22, 2), (24, 2), (26, 2), (28, 2), (30, 2)] := by kernel_rfl
theorem sz_246 : szOf Tryz.prog 246 = some 1 := by kernel_rfl
theorem by_246 : byOf Tryz.prog 246 = some 8 := by kernel_rfl
theorem ag_246 : aggOf Tryz.prog 246 = some false := by kernel_rfl
theorem zc_246 : zcOf Tryz.prog 246 = some [.nilFunc] := by kernel_rfl
theorem sz_247 : szOf Tryz.prog 247 = some 1 := by kernel_rfl
theorem by_247 : byOf Tryz.prog 247 = some 8 := by kernel_rfl
theorem ag_247 : aggOf Tryz.prog 247 = some false := by kernel_rfl
theorem zc_247 : zcOf Tryz.prog 247 = some [.nilFunc] := by kernel_rfl
theorem sz_248 : szOf Tryz.prog 248 = some 1 := by kernel_rfl
theorem by_248 : byOf Tryz.prog 248 = some 8 := by kernel_rfl
theorem ag_248 : aggOf Tryz.prog 248 = some false := by kernel_rfl
theorem zc_248 : zcOf Tryz.prog 248 = some [.nilFunc] := by kernel_rfl
theorem sz_249 : szOf Tryz.prog 249 = some 1 := by kernel_rfl
theorem by_249 : byOf Tryz.prog 249 = some 8 := by kernel_rfl
theorem ag_249 : aggOf Tryz.prog 249 = some false := by kernel_rfl
theorem zc_249 : zcOf Tryz.prog 249 = some [.nilFunc] := by kernel_rfl
theorem sz_250 : szOf Tryz.prog 250 = some 1 := by kernel_rfl
theorem by_250 : byOf Tryz.prog 250 = some 8 := by kernel_rfl
theorem ag_250 : aggOf Tryz.prog 250 = some false := by kernel_rfl
theorem zc_250 : zcOf Tryz.prog 250 = some [.nilFunc] := by kernel_rfl
theorem sz_251 : szOf Tryz.prog 251 = some 4 := by kernel_rfl
theorem by_251 : byOf Tryz.prog 251 = some 40 := by kernel_rfl
theorem ag_251 : aggOf Tryz.prog 251 = some true := by kernel_rfl
theorem zc_251 : zcOf Tryz.prog 251 = some [.pointer none, .pointer none, .pointer none, .string .empty] := by kernel_rfl
theorem sa_251 : isAggOf Tryz.prog 251 = true := by kernel_rfl
theorem pl_251 : plOf Tryz.prog 251 = some [(0, 1), (1, 1), (2, 1), (3, 1)] := by kernel_rfl
theorem fo_251_0 : foOf Tryz.prog 251 0 = some 0 := by kernel_rfl
theorem fi_251_0 : fiOf Tryz.prog 251 0 = some (0, 1, false) := by kernel_rfl
theorem fo_251_1 : foOf Tryz.prog 251 1 = some 1 := by kernel_rfl
theorem fi_251_1 : fiOf Tryz.prog 251 1 = some (1, 1, false) := by kernel_rfl
theorem fo_251_2 : foOf Tryz.prog 251 2 = some 2 := by kernel_rfl
theorem fi_251_2 : fiOf Tryz.prog 251 2 = some (2, 1, false) := by kernel_rfl
theorem fo_251_3 : foOf Tryz.prog 251 3 = some 3 := by kernel_rfl
theorem fi_251_3 : fiOf Tryz.prog 251 3 = some (3, 1, false) := by kernel_rfl
theorem sz_252 : szOf Tryz.prog 252 = some 4 := by kernel_rfl
theorem by_252 : byOf Tryz.prog 252 = some 40 := by kernel_rfl
theorem ag_252 : aggOf Tryz.prog 252 = some true := by kernel_rfl
theorem zc_252 : zcOf Tryz.prog 252 = some [.pointer none, .pointer none, .pointer none, .string .empty] := by kernel_rfl
theorem sa_252 : isAggOf Tryz.prog 252 = true := by kernel_rfl
theorem pl_252 : plOf Tryz.prog 252 = some [(0, 1), (1, 1), (2, 1), (3, 1)] := by kernel_rfl
theorem fo_252_0 : foOf Tryz.prog 252 0 = some 0 := by kernel_rfl
theorem fi_252_0 : fiOf Tryz.prog 252 0 = some (0, 1, false) := by kernel_rfl
theorem fo_252_1 : foOf Tryz.prog 252 1 = some 1 := by kernel_rfl
theorem fi_252_1 : fiOf Tryz.prog 252 1 = some (1, 1, false) := by kernel_rfl
theorem fo_252_2 : foOf Tryz.prog 252 2 = some 2 := by kernel_rfl
theorem fi_252_2 : fiOf Tryz.prog 252 2 = some (2, 1, false) := by kernel_rfl
theorem fo_252_3 : foOf Tryz.prog 252 3 = some 3 := by kernel_rfl
theorem fi_252_3 : fiOf Tryz.prog 252 3 = some (3, 1, false) := by kernel_rfl
theorem sz_253 : szOf Tryz.prog 253 = some 0 := by kernel_rfl
theorem by_253 : byOf Tryz.prog 253 = some 0 := by kernel_rfl
theorem ag_253 : aggOf Tryz.prog 253 = some true := by kernel_rfl
theorem zc_253 : zcOf Tryz.prog 253 = some [] := by kernel_rfl
theorem sa_253 : isAggOf Tryz.prog 253 = true := by kernel_rfl
theorem pl_253 : plOf Tryz.prog 253 = some [] := by kernel_rfl
theorem sz_254 : szOf Tryz.prog 254 = some 0 := by kernel_rfl
theorem by_254 : byOf Tryz.prog 254 = some 0 := by kernel_rfl
theorem ag_254 : aggOf Tryz.prog 254 = some true := by kernel_rfl
theorem zc_254 : zcOf Tryz.prog 254 = some [] := by kernel_rfl
theorem sa_254 : isAggOf Tryz.prog 254 = true := by kernel_rfl
theorem pl_254 : plOf Tryz.prog 254 = some [(0, 0)] := by kernel_rfl
theorem fi_254_0 : fiOf Tryz.prog 254 0 = some (0, 0, true) := by kernel_rfl
theorem sz_255 : szOf Tryz.prog 255 = some 0 := by kernel_rfl
theorem by_255 : byOf Tryz.prog 255 = some 0 := by kernel_rfl
theorem ag_255 : aggOf Tryz.prog 255 = some true := by kernel_rfl
theorem zc_255 : zcOf Tryz.prog 255 = some [] := by kernel_rfl
theorem sa_255 : isAggOf Tryz.prog 255 = true := by kernel_rfl
theorem pl_255 : plOf Tryz.prog 255 = some [(0, 0)] := by kernel_rfl
theorem fi_255_0 : fiOf Tryz.prog 255 0 = some (0, 0, true) := by kernel_rfl
theorem sz_256 : szOf Tryz.prog 256 = some 1 := by kernel_rfl
theorem by_256 : byOf Tryz.prog 256 = some 8 := by kernel_rfl
theorem ag_256 : aggOf Tryz.prog 256 = some false := by kernel_rfl
theorem zc_256 : zcOf Tryz.prog 256 = some [.nilFunc] := by kernel_rfl
theorem sz_257 : szOf Tryz.prog 257 = some 1 := by kernel_rfl
theorem by_257 : byOf Tryz.prog 257 = some 1 := by kernel_rfl
theorem ag_257 : aggOf Tryz.prog 257 = some false := by kernel_rfl
theorem zc_257 : zcOf Tryz.prog 257 = some [.int .u8 0] := by kernel_rfl
theorem zv_257 : (Tryz.prog.info? 257).bind (·.zero) = some (.int .u8 0) := by kernel_rfl
theorem sz_258 : szOf Tryz.prog 258 = some 1 := by kernel_rfl
theorem by_258 : byOf Tryz.prog 258 = some 1 := by kernel_rfl
theorem ag_258 : aggOf Tryz.prog 258 = some false := by kernel_rfl
theorem zc_258 : zcOf Tryz.prog 258 = some [.int .u8 0] := by kernel_rfl
theorem zv_258 : (Tryz.prog.info? 258).bind (·.zero) = some (.int .u8 0) := by kernel_rfl
theorem sz_259 : szOf Tryz.prog 259 = some 1 := by kernel_rfl
theorem by_259 : byOf Tryz.prog 259 = some 8 := by kernel_rfl
theorem ag_259 : aggOf Tryz.prog 259 = some false := by kernel_rfl
theorem zc_259 : zcOf Tryz.prog 259 = some [.nilFunc] := by kernel_rfl
theorem sz_260 : szOf Tryz.prog 260 = some 1 := by kernel_rfl
theorem by_260 : byOf Tryz.prog 260 = some 8 := by kernel_rfl
theorem ag_260 : aggOf Tryz.prog 260 = some false := by kernel_rfl
theorem zc_260 : zcOf Tryz.prog 260 = some [.pointer none] := by kernel_rfl
theorem sz_261 : szOf Tryz.prog 261 = some 1 := by kernel_rfl
theorem by_261 : byOf Tryz.prog 261 = some 4 := by kernel_rfl
theorem ag_261 : aggOf Tryz.prog 261 = some false := by kernel_rfl
theorem zc_261 : zcOf Tryz.prog 261 = some [.int .i32 0] := by kernel_rfl
theorem zv_261 : (Tryz.prog.info? 261).bind (·.zero) = some (.int .i32 0) := by kernel_rfl
theorem sz_262 : szOf Tryz.prog 262 = some 1 := by kernel_rfl
theorem by_262 : byOf Tryz.prog 262 = some 4 := by kernel_rfl
theorem ag_262 : aggOf Tryz.prog 262 = some false := by kernel_rfl
theorem zc_262 : zcOf Tryz.prog 262 = some [.int .i32 0] := by kernel_rfl
theorem zv_262 : (Tryz.prog.info? 262).bind (·.zero) = some (.int .i32 0) := by kernel_rfl
theorem sz_263 : szOf Tryz.prog 263 = some 11 := by kernel_rfl
theorem by_263 : byOf Tryz.prog 263 = some 48 := by kernel_rfl
theorem ag_263 : aggOf Tryz.prog 263 = some true := by kernel_rfl
theorem zc_263 : zcOf Tryz.prog 263 = some [.int .u64 0, .int .u64 0, .int .u32 0, .int .u8 0, .int .u8 0, .int .u8 0, .int .u8 0, .nilFunc, .pointer none, .int .i32 0, .int .i32 0] := by kernel_rfl
theorem sa_263 : isAggOf Tryz.prog 263 = true := by kernel_rfl
theorem pl_263 : plOf Tryz.prog 263 = some [(0, 1), (1, 1), (2, 1), (3, 1), (4, 1), (5, 1), (6, 1), (7, 1), (8, 1), (9, 1), (10, 1)] := by kernel_rfl
theorem fo_263_0 : foOf Tryz.prog 263 0 = some 0 := by kernel_rfl
theorem fi_263_0 : fiOf Tryz.prog 263 0 = some (0, 1, false) := by kernel_rfl
theorem fo_263_1 : foOf Tryz.prog 263 1 = some 1 := by kernel_rfl
theorem fi_263_1 : fiOf Tryz.prog 263 1 = some (1, 1, false) := by kernel_rfl
theorem fo_263_2 : foOf Tryz.prog 263 2 = some 2 := by kernel_rfl
theorem fi_263_2 : fiOf Tryz.prog 263 2 = some (2, 1, false) := by kernel_rfl
theorem fo_263_3 : foOf Tryz.prog 263 3 = some 3 := by kernel_rfl
theorem fi_263_3 : fiOf Tryz.prog 263 3 = some (3, 1, false) := by kernel_rfl
theorem fo_263_4 : foOf Tryz.prog 263 4 = some 4 := by kernel_rfl
theorem fi_263_4 : fiOf Tryz.prog 263 4 = some (4, 1, false) := by kernel_rfl
theorem fo_263_5 : foOf Tryz.prog 263 5 = some 5 := by kernel_rfl
theorem fi_263_5 : fiOf Tryz.prog 263 5 = some (5, 1, false) := by kernel_rfl
theorem fo_263_6 : foOf Tryz.prog 263 6 = some 6 := by kernel_rfl
theorem fi_263_6 : fiOf Tryz.prog 263 6 = some (6, 1, false) := by kernel_rfl
theorem fo_263_7 : foOf Tryz.prog 263 7 = some 7 := by kernel_rfl
theorem fi_263_7 : fiOf Tryz.prog 263 7 = some (7, 1, false) := by kernel_rfl
theorem fo_263_8 : foOf Tryz.prog 263 8 = some 8 := by kernel_rfl
theorem fi_263_8 : fiOf Tryz.prog 263 8 = some (8, 1, false) := by kernel_rfl
theorem fo_263_9 : foOf Tryz.prog 263 9 = some 9 := by kernel_rfl
theorem fi_263_9 : fiOf Tryz.prog 263 9 = some (9, 1, false) := by kernel_rfl
theorem fo_263_10 : foOf Tryz.prog 263 10 = some 10 := by kernel_rfl
theorem fi_263_10 : fiOf Tryz.prog 263 10 = some (10, 1, false) := by kernel_rfl
theorem sz_264 : szOf Tryz.prog 264 = some 11 := by kernel_rfl
theorem by_264 : byOf Tryz.prog 264 = some 48 := by kernel_rfl
theorem ag_264 : aggOf Tryz.prog 264 = some true := by kernel_rfl
theorem zc_264 : zcOf Tryz.prog 264 = some [.int .u64 0, .int .u64 0, .int .u32 0, .int .u8 0, .int .u8 0, .int .u8 0, .int .u8 0, .nilFunc, .pointer none, .int .i32 0, .int .i32 0] := by kernel_rfl
theorem sa_264 : isAggOf Tryz.prog 264 = true := by kernel_rfl
theorem pl_264 : plOf Tryz.prog 264 = some [(0, 1), (1, 1), (2, 1), (3, 1), (4, 1), (5, 1), (6, 1), (7, 1), (8, 1), (9, 1), (10, 1)] := by kernel_rfl
theorem fo_264_0 : foOf Tryz.prog 264 0 = some 0 := by kernel_rfl
theorem fi_264_0 : fiOf Tryz.prog 264 0 = some (0, 1, false) := by kernel_rfl
theorem fo_264_1 : foOf Tryz.prog 264 1 = some 1 := by kernel_rfl
theorem fi_264_1 : fiOf Tryz.prog 264 1 = some (1, 1, false) := by kernel_rfl
theorem fo_264_2 : foOf Tryz.prog 264 2 = some 2 := by kernel_rfl
theorem fi_264_2 : fiOf Tryz.prog 264 2 = some (2, 1, false) := by kernel_rfl
theorem fo_264_3 : foOf Tryz.prog 264 3 = some 3 := by kernel_rfl
theorem fi_264_3 : fiOf Tryz.prog 264 3 = some (3, 1, false) := by kernel_rfl
theorem fo_264_4 : foOf Tryz.prog 264 4 = some 4 := by kernel_rfl
theorem fi_264_4 : fiOf Tryz.prog 264 4 = some (4, 1, false) := by kernel_rfl
theorem fo_264_5 : foOf Tryz.prog 264 5 = some 5 := by kernel_rfl
theorem fi_264_5 : fiOf Tryz.prog 264 5 = some (5, 1, false) := by kernel_rfl
theorem fo_264_6 : foOf Tryz.prog 264 6 = some 6 := by kernel_rfl
theorem fi_264_6 : fiOf Tryz.prog 264 6 = some (6, 1, false) := by kernel_rfl
theorem fo_264_7 : foOf Tryz.prog 264 7 = some 7 := by kernel_rfl
theorem fi_264_7 : fiOf Tryz.prog 264 7 = some (7, 1, false) := by kernel_rfl
theorem fo_264_8 : foOf Tryz.prog 264 8 = some 8 := by kernel_rfl
theorem fi_264_8 : fiOf Tryz.prog 264 8 = some (8, 1, false) := by kernel_rfl
theorem fo_264_9 : foOf Tryz.prog 264 9 = some 9 := by kernel_rfl
theorem fi_264_9 : fiOf Tryz.prog 264 9 = some (9, 1, false) := by kernel_rfl
theorem fo_264_10 : foOf Tryz.prog 264 10 = some 10 := by kernel_rfl
theorem fi_264_10 : fiOf Tryz.prog 264 10 = some (10, 1, false) := by kernel_rfl
theorem sz_265 : szOf Tryz.prog 265 = some 1 := by kernel_rfl
theorem by_265 : byOf Tryz.prog 265 = some 8 := by kernel_rfl
theorem ag_265 : aggOf Tryz.prog 265 = some false := by kernel_rfl
theorem zc_265 : zcOf Tryz.prog 265 = some [.nilFunc] := by kernel_rfl
theorem sz_266 : szOf Tryz.prog 266 = some 1 := by kernel_rfl
theorem by_266 : byOf Tryz.prog 266 = some 8 := by kernel_rfl
theorem ag_266 : aggOf Tryz.prog 266 = some false := by kernel_rfl
theorem zc_266 : zcOf Tryz.prog 266 = some [.pointer none] := by kernel_rfl
theorem sz_267 : szOf Tryz.prog 267 = some 1 := by kernel_rfl
theorem by_267 : byOf Tryz.prog 267 = some 8 := by kernel_rfl
theorem ag_267 : aggOf Tryz.prog 267 = some false := by kernel_rfl
theorem zc_267 : zcOf Tryz.prog 267 = some [.nilFunc] := by kernel_rfl
theorem sz_268 : szOf Tryz.prog 268 = some 1 := by kernel_rfl
theorem by_268 : byOf Tryz.prog 268 = some 8 := by kernel_rfl
theorem ag_268 : aggOf Tryz.prog 268 = some false := by kernel_rfl
theorem zc_268 : zcOf Tryz.prog 268 = some [.nilFunc] := by kernel_rfl
theorem sz_269 : szOf Tryz.prog 269 = some 1 := by kernel_rfl
theorem by_269 : byOf Tryz.prog 269 = some 8 := by kernel_rfl
theorem ag_269 : aggOf Tryz.prog 269 = some false := by kernel_rfl
theorem zc_269 : zcOf Tryz.prog 269 = some [.nilFunc] := by kernel_rfl
theorem rn_2 : runs Tryz.prog 2 = true := by kernel_rfl
theorem rn_3 : runs Tryz.prog 3 = true := by kernel_rfl
theorem rn_4 : runs Tryz.prog 4 = true := by kernel_rfl
theorem rn_5 : runs Tryz.prog 5 = true := by kernel_rfl
theorem rn_6 : runs Tryz.prog 6 = true := by kernel_rfl
theorem rn_7 : runs Tryz.prog 7 = true := by kernel_rfl
theorem rn_8 : runs Tryz.prog 8 = true := by kernel_rfl
theorem rn_9 : runs Tryz.prog 9 = true := by kernel_rfl
theorem rn_10 : runs Tryz.prog 10 = true := by kernel_rfl
theorem rn_11 : runs Tryz.prog 11 = true := by kernel_rfl
theorem rn_12 : runs Tryz.prog 12 = true := by kernel_rfl
theorem rn_13 : runs Tryz.prog 13 = true := by kernel_rfl
theorem rn_14 : runs Tryz.prog 14 = true := by kernel_rfl
theorem rn_15 : runs Tryz.prog 15 = true := by kernel_rfl
theorem rn_16 : runs Tryz.prog 16 = true := by kernel_rfl
theorem rn_17 : runs Tryz.prog 17 = true := by kernel_rfl
theorem rn_18 : runs Tryz.prog 18 = true := by kernel_rfl
theorem rn_19 : runs Tryz.prog 19 = true := by kernel_rfl
theorem rn_20 : runs Tryz.prog 20 = true := by kernel_rfl
theorem rn_21 : runs Tryz.prog 21 = true := by kernel_rfl
theorem rn_22 : runs Tryz.prog 22 = true := by kernel_rfl
theorem rn_23 : runs Tryz.prog 23 = true := by kernel_rfl
theorem rn_24 : runs Tryz.prog 24 = true := by kernel_rfl
theorem rn_25 : runs Tryz.prog 25 = true := by kernel_rfl
theorem rn_26 : runs Tryz.prog 26 = true := by kernel_rfl
theorem rn_27 : runs Tryz.prog 27 = true := by kernel_rfl
theorem rn_28 : runs Tryz.prog 28 = true := by kernel_rfl
theorem rn_29 : runs Tryz.prog 29 = true := by kernel_rfl
theorem rn_30 : runs Tryz.prog 30 = true := by kernel_rfl
theorem rn_31 : runs Tryz.prog 31 = true := by kernel_rfl
theorem rn_32 : runs Tryz.prog 32 = true := by kernel_rfl
theorem rn_33 : runs Tryz.prog 33 = true := by kernel_rfl
theorem rn_34 : runs Tryz.prog 34 = true := by kernel_rfl
theorem rn_35 : runs Tryz.prog 35 = true := by kernel_rfl
theorem rn_36 : runs Tryz.prog 36 = true := by kernel_rfl
theorem rn_37 : runs Tryz.prog 37 = true := by kernel_rfl
theorem rn_38 : runs Tryz.prog 38 = true := by kernel_rfl
theorem rn_39 : runs Tryz.prog 39 = true := by kernel_rfl
theorem rn_40 : runs Tryz.prog 40 = true := by kernel_rfl
theorem rn_41 : runs Tryz.prog 41 = true := by kernel_rfl
theorem rn_42 : runs Tryz.prog 42 = true := by kernel_rfl
theorem rn_43 : runs Tryz.prog 43 = true := by kernel_rfl
theorem rn_44 : runs Tryz.prog 44 = true := by kernel_rfl
theorem rn_45 : runs Tryz.prog 45 = true := by kernel_rfl
theorem rn_46 : runs Tryz.prog 46 = true := by kernel_rfl
theorem rn_47 : runs Tryz.prog 47 = true := by kernel_rfl
theorem rn_48 : runs Tryz.prog 48 = true := by kernel_rfl
theorem rn_49 : runs Tryz.prog 49 = true := by kernel_rfl
theorem rn_50 : runs Tryz.prog 50 = true := by kernel_rfl
theorem rn_51 : runs Tryz.prog 51 = true := by kernel_rfl
theorem rn_52 : runs Tryz.prog 52 = true := by kernel_rfl
theorem rn_53 : runs Tryz.prog 53 = true := by kernel_rfl
theorem rn_54 : runs Tryz.prog 54 = true := by kernel_rfl
theorem rn_55 : runs Tryz.prog 55 = true := by kernel_rfl
theorem rn_56 : runs Tryz.prog 56 = true := by kernel_rfl
theorem rn_57 : runs Tryz.prog 57 = true := by kernel_rfl
theorem rn_58 : runs Tryz.prog 58 = true := by kernel_rfl
theorem rn_59 : runs Tryz.prog 59 = true := by kernel_rfl
theorem rn_60 : runs Tryz.prog 60 = true := by kernel_rfl
theorem rn_61 : runs Tryz.prog 61 = true := by kernel_rfl
theorem rn_62 : runs Tryz.prog 62 = true := by kernel_rfl
theorem rn_63 : runs Tryz.prog 63 = true := by kernel_rfl
theorem rn_64 : runs Tryz.prog 64 = true := by kernel_rfl
theorem rn_65 : runs Tryz.prog 65 = true := by kernel_rfl
theorem rn_66 : runs Tryz.prog 66 = true := by kernel_rfl
theorem rn_67 : runs Tryz.prog 67 = true := by kernel_rfl
theorem rn_68 : runs Tryz.prog 68 = true := by kernel_rfl
theorem rn_69 : runs Tryz.prog 69 = true := by kernel_rfl
theorem rn_70 : runs Tryz.prog 70 = true := by kernel_rfl
theorem rn_71 : runs Tryz.prog 71 = true := by kernel_rfl
theorem rn_72 : runs Tryz.prog 72 = true := by kernel_rfl
theorem rn_73 : runs Tryz.prog 73 = true := by kernel_rfl
theorem rn_74 : runs Tryz.prog 74 = true := by kernel_rfl
theorem rn_75 : runs Tryz.prog 75 = true := by kernel_rfl
theorem rn_76 : runs Tryz.prog 76 = true := by kernel_rfl
theorem rn_77 : runs Tryz.prog 77 = true := by kernel_rfl
theorem rn_78 : runs Tryz.prog 78 = true := by kernel_rfl
theorem rn_79 : runs Tryz.prog 79 = true := by kernel_rfl
theorem rn_80 : runs Tryz.prog 80 = true := by kernel_rfl
theorem rn_81 : runs Tryz.prog 81 = true := by kernel_rfl
theorem rn_82 : runs Tryz.prog 82 = true := by kernel_rfl
theorem rn_83 : runs Tryz.prog 83 = true := by kernel_rfl
theorem rn_84 : runs Tryz.prog 84 = true := by kernel_rfl
theorem rn_85 : runs Tryz.prog 85 = true := by kernel_rfl
theorem rn_86 : runs Tryz.prog 86 = true := by kernel_rfl
theorem rn_87 : runs Tryz.prog 87 = true := by kernel_rfl
theorem rn_88 : runs Tryz.prog 88 = true := by kernel_rfl
theorem rn_89 : runs Tryz.prog 89 = true := by kernel_rfl
theorem rn_90 : runs Tryz.prog 90 = true := by kernel_rfl
theorem rn_91 : runs Tryz.prog 91 = true := by kernel_rfl
theorem rn_92 : runs Tryz.prog 92 = true := by kernel_rfl
theorem rn_93 : runs Tryz.prog 93 = true := by kernel_rfl
theorem rn_94 : runs Tryz.prog 94 = true := by kernel_rfl
theorem rn_95 : runs Tryz.prog 95 = true := by kernel_rfl
theorem rn_96 : runs Tryz.prog 96 = true := by kernel_rfl
theorem rn_97 : runs Tryz.prog 97 = true := by kernel_rfl
theorem rn_98 : runs Tryz.prog 98 = true := by kernel_rfl
theorem rn_99 : runs Tryz.prog 99 = true := by kernel_rfl
theorem rn_100 : runs Tryz.prog 100 = true := by kernel_rfl
theorem rn_101 : runs Tryz.prog 101 = true := by kernel_rfl
theorem rn_102 : runs Tryz.prog 102 = true := by kernel_rfl
theorem rn_103 : runs Tryz.prog 103 = true := by kernel_rfl
theorem rn_104 : runs Tryz.prog 104 = true := by kernel_rfl
theorem rn_105 : runs Tryz.prog 105 = true := by kernel_rfl
theorem rn_106 : runs Tryz.prog 106 = true := by kernel_rfl
theorem rn_107 : runs Tryz.prog 107 = true := by kernel_rfl
theorem rn_108 : runs Tryz.prog 108 = true := by kernel_rfl
theorem rn_109 : runs Tryz.prog 109 = true := by kernel_rfl
theorem rn_110 : runs Tryz.prog 110 = true := by kernel_rfl
theorem rn_111 : runs Tryz.prog 111 = true := by kernel_rfl
theorem rn_112 : runs Tryz.prog 112 = true := by kernel_rfl
theorem rn_113 : runs Tryz.prog 113 = true := by kernel_rfl
theorem rn_114 : runs Tryz.prog 114 = true := by kernel_rfl
theorem rn_115 : runs Tryz.prog 115 = true := by kernel_rfl
theorem rn_116 : runs Tryz.prog 116 = true := by kernel_rfl
theorem rn_117 : runs Tryz.prog 117 = true := by kernel_rfl
theorem rn_118 : runs Tryz.prog 118 = true := by kernel_rfl
theorem rn_119 : runs Tryz.prog 119 = true := by kernel_rfl
theorem rn_120 : runs Tryz.prog 120 = true := by kernel_rfl
theorem rn_121 : runs Tryz.prog 121 = true := by kernel_rfl
theorem rn_122 : runs Tryz.prog 122 = true := by kernel_rfl
theorem rn_123 : runs Tryz.prog 123 = true := by kernel_rfl
theorem rn_124 : runs Tryz.prog 124 = true := by kernel_rfl
theorem rn_125 : runs Tryz.prog 125 = true := by kernel_rfl
theorem rn_126 : runs Tryz.prog 126 = true := by kernel_rfl
theorem rn_127 : runs Tryz.prog 127 = true := by kernel_rfl
theorem rn_128 : runs Tryz.prog 128 = true := by kernel_rfl
theorem rn_129 : runs Tryz.prog 129 = true := by kernel_rfl
theorem rn_130 : runs Tryz.prog 130 = true := by kernel_rfl
theorem rn_131 : runs Tryz.prog 131 = true := by kernel_rfl
theorem rn_132 : runs Tryz.prog 132 = true := by kernel_rfl
theorem rn_133 : runs Tryz.prog 133 = true := by kernel_rfl
theorem rn_134 : runs Tryz.prog 134 = true := by kernel_rfl
theorem rn_135 : runs Tryz.prog 135 = true := by kernel_rfl
theorem rn_136 : runs Tryz.prog 136 = true := by kernel_rfl
theorem rn_137 : runs Tryz.prog 137 = true := by kernel_rfl
theorem rn_138 : runs Tryz.prog 138 = true := by kernel_rfl
theorem rn_139 : runs Tryz.prog 139 = true := by kernel_rfl
theorem rn_140 : runs Tryz.prog 140 = true := by kernel_rfl
theorem rn_141 : runs Tryz.prog 141 = true := by kernel_rfl
theorem rn_142 : runs Tryz.prog 142 = true := by kernel_rfl
theorem rn_143 : runs Tryz.prog 143 = true := by kernel_rfl
theorem rn_144 : runs Tryz.prog 144 = true := by kernel_rfl
theorem rn_145 : runs Tryz.prog 145 = true := by kernel_rfl
theorem rn_146 : runs Tryz.prog 146 = true := by kernel_rfl
theorem rn_147 : runs Tryz.prog 147 = true := by kernel_rfl
theorem rn_148 : runs Tryz.prog 148 = true := by kernel_rfl
theorem rn_149 : runs Tryz.prog 149 = true := by kernel_rfl
theorem rn_150 : runs Tryz.prog 150 = true := by kernel_rfl
theorem rn_151 : runs Tryz.prog 151 = true := by kernel_rfl
theorem rn_152 : runs Tryz.prog 152 = true := by kernel_rfl
theorem rn_153 : runs Tryz.prog 153 = true := by kernel_rfl
theorem rn_154 : runs Tryz.prog 154 = true := by kernel_rfl
theorem rn_155 : runs Tryz.prog 155 = true := by kernel_rfl
theorem rn_156 : runs Tryz.prog 156 = true := by kernel_rfl
theorem rn_157 : runs Tryz.prog 157 = true := by kernel_rfl
theorem rn_158 : runs Tryz.prog 158 = true := by kernel_rfl
theorem rn_159 : runs Tryz.prog 159 = true := by kernel_rfl
theorem rn_161 : runs Tryz.prog 161 = true := by kernel_rfl
theorem rn_185 : runs Tryz.prog 185 = true := by kernel_rfl
theorem hm : Tryz.prog.follows .mixedOrders = true := by kernel_rfl
end Go.Proofs.YtogljfjbilndnaaGreatDoor
/- Formats, tracks, and the bands of one track, walked. -/
namespace Go.Proofs.YtogljfjbilndnaaGreatDoor.Side
open Go.Sx Go.Proofs Go.RowKit

structure Fmt where
  nm : ByteArray
  outer : Int
  inner : Int
  per : Int
  lead : Int
  gap : Int
  tail : Int
  cost : Int
abbrev Fmt.cells (f : Fmt) : List Value := [.string f.nm, I f.outer, I f.inner, I f.per, I f.lead, I f.gap, I f.tail, I f.cost]
abbrev Fmt.val (f : Fmt) : Value := .agg #[.string f.nm, I f.outer, I f.inner, I f.per, I f.lead, I f.gap, I f.tail, I f.cost]
structure Fmt.Ok (f : Fmt) : Prop where
  nm : (1 ≤ f.nm.size ∧ f.nm.size ≤ 20) ∧ ∀ i, i < f.nm.size → 97 ≤ ((byz f.nm).getD i default).toNat ∧ ((byz f.nm).getD i default).toNat ≤ 122
  outer : 1 ≤ f.outer ∧ f.outer ≤ 4194304
  inner : 0 ≤ f.inner ∧ f.inner ≤ f.outer - 1
  per : 1 ≤ f.per ∧ f.per ≤ 65536
  lead : 0 ≤ f.lead ∧ f.lead ≤ 4194304
  gap : 0 ≤ f.gap ∧ f.gap ≤ 4194304
  tail : 0 ≤ f.tail ∧ f.tail ≤ 4194304
  cost : 0 ≤ f.cost ∧ f.cost ≤ 1048576
theorem getD_memT {α : Type} [Inhabited α] {l : List α} {i : Nat} (h : i < l.length) : l.getD i default ∈ l := by simp [List.getD, h]
structure Trk where
  long : Int
  pitch : Int
  least : Int
instance : Inhabited Trk := ⟨⟨0, 0, 0⟩⟩
def eTrk (t : Trk) : List Value := [I t.long, I t.pitch, I t.least]
structure Trk.Ok (t : Trk) : Prop where
  long : 1 ≤ t.long ∧ t.long ≤ 16777216
  pitch : 1 ≤ t.pitch ∧ t.pitch ≤ 4096
  least : 0 ≤ t.least ∧ t.least ≤ 4194304
section
variable {w : World} {A A2 : Option Addr} {c c2 : Nat}
theorem C_outside {n lo hi : Int} (h : lo ≤ n ∧ n ≤ hi) : Con0 Tryz.prog 53 [I n, I lo, I hi] w (.bool false) := by
  refine Ret_of (vs := [_, _, _]) hm none' Tryz.func53 rfl Tryz.ntmps53 rfl ?_
  dsimp only [slotsOf]
  refine GE_seq ?_
  refine GE_plain (.st 0 .nil) rfl ?_
  refine GT_st rfl rfl rfl rfl (V_assign rfl rfl) ?_
  refine GT_nil ?_
  refine GE_seq ?_
  refine GE_plain (.st 0 (.st 1 (.st 2 (.st 3 (.st 4 (.st 5 (.st 6 (.st 7 (.st 8 .nil))))))))) rfl ?_
  refine GT_st rfl rfl rfl rfl (V_move rfl rfl) ?_
  refine GT_st rfl rfl rfl rfl (V_move rfl rfl) ?_
  refine GT_st rfl rfl rfl rfl (V_lss rfl rfl rfl) ?_
  refine GT_st rfl rfl rfl rfl (V_move rfl rfl) ?_
  first | refine GT_splitNot (d := 10) rfl (fun h1 => ?_) (fun h1 => ?_) | refine GT_split (d := 10) rfl (fun h1 => ?_) (fun h1 => ?_) | refine GT_splitNotB (d := 10) rfl (fun h1 => ?_) (fun h1 => ?_) | refine GT_splitB (d := 10) rfl (fun h1 => ?_) (fun h1 => ?_)
  · skip
    refine GT_skip rfl rfl rfl rfl rfl (by decide) rfl rfl ?_
    refine GT_skip rfl rfl rfl rfl rfl (by decide) rfl rfl ?_
    refine GT_skip rfl rfl rfl rfl rfl (by decide) rfl rfl ?_
    refine GT_st rfl rfl rfl rfl (V_pick_t rfl rfl rfl) ?_
    refine GT_st rfl rfl rfl rfl (V_assign rfl rfl) ?_
    refine GT_nil ?_
    refine GE_ret Tryz.func53 rfl (fun w hw => ⟨?_, hw.nil⟩)
    refine congrArg Value.bool ?_; simp; omega
  · skip
    refine GT_st_g rfl rfl rfl rfl rfl rfl rfl (V_move rfl rfl) ?_
    refine GT_st_g rfl rfl rfl rfl rfl rfl rfl (V_move rfl rfl) ?_
    refine GT_st_g rfl rfl rfl rfl rfl rfl rfl (V_gtr rfl rfl rfl) ?_
    refine GT_st rfl rfl rfl rfl (V_pick_f rfl rfl rfl) ?_
    refine GT_st rfl rfl rfl rfl (V_assign rfl rfl) ?_
    refine GT_nil ?_
    refine GE_ret Tryz.func53 rfl (fun w hw => ⟨?_, hw.nil⟩)
    refine congrArg Value.bool ?_; simp; omega
theorem C_isName {s : ByteArray} (h1 : 1 ≤ s.size ∧ s.size ≤ 20) (hb : ∀ i, i < s.size → 97 ≤ ((byz s).getD i default).toNat ∧ ((byz s).getD i default).toNat ≤ 122) : Con0 Tryz.prog 52 [.string s] w (.bool true) := by
  have hl := byz_len s
  refine Ret_of (vs := [_]) hm none' Tryz.func52 rfl Tryz.ntmps52 rfl ?_
  dsimp only [slotsOf]
  refine GE_seq ?_
  refine GE_plain (.st 0 .nil) rfl ?_
  refine GT_st rfl rfl rfl rfl (V_assign rfl rfl) ?_
  refine GT_nil ?_
  refine GE_seq ?_
  refine GE_seq ?_
  refine GE_plain (.st 0 (.ld 1 [] (.st 2 (.st 3 .nil)))) rfl ?_
  refine GT_st rfl rfl rfl rfl (V_move rfl rfl) ?_
  refine GT_strBytes rfl rfl rfl rfl rfl rfl Tryz.underlying9 Tryz.underlying183 Tryz.underlying5 (fun _ _ _ _ => GR_nil) (fun b6 c6 I6 hI6 => ?_)
  refine GT_st rfl rfl rfl rfl (V_len rfl Tryz.underlying183 rfl) ?_
  refine GT_st rfl rfl rfl rfl (V_move rfl rfl) ?_
  refine GT_nil ?_
  refine GE_block ?_
  refine GE_to (GE_loop (ι := Nat) (fun k => s.size - k) (fun k => [(0, .string s), (6, .slice (some ⟨b6, 0, none⟩) (byz s).length c6), (7, I (byz s).length), (8, I k)]) (fun k => I6) (fun k => k ≤ s.size) ?_ 0 ?_) ⟨rfl, rfl, rfl, rfl, trivial⟩ HS.last
  · intro k hk ih
    refine GE_seq ?_
    refine GE_plain (.st 0 .nil) rfl ?_
    refine GT_st rfl rfl rfl rfl (V_lss rfl rfl rfl) ?_
    refine GT_nil ?_
    refine GE_seq ?_
    first | refine GE_condNot rfl (fun q1 => ?_) (fun q1 => ?_) | refine GE_cond rfl (fun q1 => ?_) (fun q1 => ?_) | refine GE_condNotB rfl (fun q1 => ?_) (fun q1 => ?_) | refine GE_condB rfl (fun q1 => ?_) (fun q1 => ?_)
    · have hkl : k < s.size := (by omega); have hbk := hb k hkl
      refine GE_skip ?_
      refine GE_seq ?_
      refine GE_block ?_
      refine GE_seq ?_
      refine GE_plain (.st 0 (.st 1 (.st 2 .nil))) rfl ?_
      refine GT_st rfl rfl rfl rfl (V_index rfl rfl rfl Tryz.underlying183 sz_5 (k := k) rfl (by omega) rfl) ?_
      refine GT_st rfl rfl rfl rfl (V_load rfl rfl ag_5 (CellAt.rdH0 (fun w m => RowB.rd hI6 m) (by omega) rfl)) ?_
      refine GT_st rfl rfl rfl rfl (V_assign rfl rfl) ?_
      refine GT_nil ?_
      refine GE_seq ?_
      refine GE_plain (.st 0 (.st 1 (.st 2 (.st 3 (.st 4 (.st 5 (.st 6 (.st 7 (.st 8 (.st 9 (.st 10 (.st 11 (.st 12 (.st 13 .nil)))))))))))))) rfl ?_
      refine GT_st rfl rfl rfl rfl (V_move rfl rfl) ?_
      refine GT_st rfl rfl rfl rfl (V_isF (V_lss rfl rfl rfl) (by omega)) ?_
      refine GT_st rfl rfl rfl rfl (V_move rfl rfl) ?_
      refine GT_st_g rfl rfl rfl rfl rfl rfl rfl (V_move rfl rfl) ?_
      refine GT_st_g rfl rfl rfl rfl rfl rfl rfl (V_isF (V_gtr rfl rfl rfl) (by omega)) ?_
      refine GT_st rfl rfl rfl rfl (V_pick_f rfl rfl rfl) ?_
      refine GT_st rfl rfl rfl rfl (V_move rfl rfl) ?_
      refine GT_skip rfl rfl rfl rfl rfl (by decide) rfl rfl ?_
      refine GT_skip rfl rfl rfl rfl rfl (by decide) rfl rfl ?_
      refine GT_skip rfl rfl rfl rfl rfl (by decide) rfl rfl ?_
      refine GT_skip rfl rfl rfl rfl rfl (by decide) rfl rfl ?_
      refine GT_skip rfl rfl rfl rfl rfl (by decide) rfl rfl ?_
      refine GT_skip rfl rfl rfl rfl rfl (by decide) rfl rfl ?_
      refine GT_st rfl rfl rfl rfl (V_pick_f rfl rfl rfl) ?_
      refine GT_nil ?_
      refine GE_cond_f rfl ?_
      refine GE_skip ?_
      refine GE_inBlock ?_
      refine GE_slots (L' := [(0, _), (6, _), (7, _), (8, _), (15, _), (16, _), (19, _), (20, _), (21, _), (22, _), (23, _), (24, _)]) ⟨rfl, rfl, rfl, rfl, rfl, rfl, rfl, rfl, rfl, rfl, rfl, rfl, trivial⟩ ?_
      refine GE_plain (.st 0 (.ld 1 [] .nil)) rfl ?_
      refine GT_st rfl rfl rfl rfl (V_add rfl rfl rfl (wrap_i64 (by omega))) ?_
      refine GT_ldv rfl rfl rfl rfl rfl (V_move rfl rfl) (GR_nil) ?_
      refine GT_nil ?_
      exact GE_to (ih (k + 1) (by omega) (by omega)) ⟨rfl, rfl, rfl, rfl, trivial⟩ HS.last
    · skip
      refine GE_exit rfl ?_
      refine GE_seq ?_
      refine GE_slots (L' := [(0, _)]) ⟨rfl, trivial⟩ ?_
      refine GE_plain (.st 0 (.st 1 (.st 2 (.st 3 (.st 4 (.st 5 (.st 6 (.st 7 .nil)))))))) rfl ?_
      refine GT_st rfl rfl rfl rfl (V_move rfl rfl) ?_
      refine GT_st rfl rfl rfl rfl (V_isT (V_neqStr rfl rfl rfl) (by rintro rfl; exact absurd h1.1 (by decide))) ?_
      refine GT_st rfl rfl rfl rfl (V_move rfl rfl) ?_
      refine GT_st_g rfl rfl rfl rfl rfl rfl rfl (V_move rfl rfl) ?_
      refine GT_st_g rfl rfl rfl rfl rfl rfl rfl (V_len_str rfl Tryz.underlying9 rfl) ?_
      refine GT_st_g rfl rfl rfl rfl rfl rfl rfl (V_leq rfl rfl rfl) ?_
      refine GT_st rfl rfl rfl rfl (V_pick_t rfl rfl rfl) ?_
      refine GT_st rfl rfl rfl rfl (V_assign rfl rfl) ?_
      refine GT_nil ?_
      refine GE_ret Tryz.func52 rfl (fun w hw => ⟨?_, hw.nil⟩)
      refine congrArg Value.bool ?_; simp; omega
  · exact Nat.zero_le _
theorem C_CheckFormat {f : Fmt} (h : f.Ok) : Con0 Tryz.prog 28 [f.val] w (I 0) := by
  obtain ⟨h1, h2, h3, h4, h5, h6, h7, h8⟩ := h
  refine Ret_of (vs := [_]) hm none' Tryz.func28 rfl Tryz.ntmps28 rfl ?_
  dsimp only [slotsOf]
  refine GE_seq ?_
  refine GE_plain (.ld 0 [] (.st 1 .nil)) rfl ?_
  refine GT_box (z := [_, _, _, _, _, _, _, _]) rfl rfl rfl rfl rfl rfl rfl (fun _ => GR_nil) (fun b1 => ?_)
  refine GT_st rfl rfl rfl rfl (V_assign rfl rfl) ?_
  refine GT_nil ?_
  refine GE_seq ?_
  refine GE_plain (.st 0 (.st 1 (.ld 2 [] (.st 3 (.st 4 (.st 5 (.st 6 (.ld 7 [] (.st 8 (.st 9 (.st 10 (.st 11 (.st 12 (.st 13 (.st 14 (.ld 15 [] (.st 16 (.st 17 (.st 18 (.st 19 (.ld 20 [] (.st 21 (.st 22 (.st 23 (.st 24 (.ld 25 [] (.st 26 (.st 27 .nil)))))))))))))))))))))))))))) rfl ?_
  first | refine GT_st rfl rfl rfl rfl (V_field rfl rfl fo_24_0) ?_ | refine GT_st rfl rfl rfl rfl (V_fieldA rfl rfl fo_24_0) ?_
  refine GT_st rfl rfl rfl rfl (V_load rfl rfl ag_9 (CellAt.item rfl)) ?_
  refine GT_call0 rfl rfl rfl rfl rfl rfl rfl rfl rn_52 (fun w hw => C_isName h1.1 h1.2) (GR_nil) ?_
  first | refine GT_st rfl rfl rfl rfl (V_not rfl rfl) ?_ | refine GT_st rfl rfl rfl rfl (V_notB rfl rfl) ?_
  refine GT_st rfl rfl rfl rfl (V_move rfl rfl) ?_
  first | refine GT_st_g rfl rfl rfl rfl rfl rfl rfl (V_field rfl rfl fo_24_1) ?_ | refine GT_st_g rfl rfl rfl rfl rfl rfl rfl (V_fieldA rfl rfl fo_24_1) ?_
  refine GT_st_g rfl rfl rfl rfl rfl rfl rfl (V_load rfl rfl ag_2 (CellAt.item rfl)) ?_
  refine GT_call0_g rfl rfl rfl rfl rfl rfl rfl rfl rfl rfl rfl rn_53 (fun w hw => C_outside h2) (GR_nil) ?_
  refine GT_st rfl rfl rfl rfl (V_pick_f rfl rfl rfl) ?_
  refine GT_st rfl rfl rfl rfl (V_move rfl rfl) ?_
  first | refine GT_st_g rfl rfl rfl rfl rfl rfl rfl (V_field rfl rfl fo_24_2) ?_ | refine GT_st_g rfl rfl rfl rfl rfl rfl rfl (V_fieldA rfl rfl fo_24_2) ?_
  refine GT_st_g rfl rfl rfl rfl rfl rfl rfl (V_load rfl rfl ag_2 (CellAt.item rfl)) ?_
  first | refine GT_st_g rfl rfl rfl rfl rfl rfl rfl (V_field rfl rfl fo_24_1) ?_ | refine GT_st_g rfl rfl rfl rfl rfl rfl rfl (V_fieldA rfl rfl fo_24_1) ?_
  refine GT_st_g rfl rfl rfl rfl rfl rfl rfl (V_load rfl rfl ag_2 (CellAt.item rfl)) ?_
  refine GT_st_g rfl rfl rfl rfl rfl rfl rfl (V_sub rfl rfl rfl (wrap_i64 (by omega))) ?_
  refine GT_call0_g rfl rfl rfl rfl rfl rfl rfl rfl rfl rfl rfl rn_53 (fun w hw => C_outside h3) (GR_nil) ?_
  refine GT_st rfl rfl rfl rfl (V_pick_f rfl rfl rfl) ?_
  refine GT_st rfl rfl rfl rfl (V_move rfl rfl) ?_
  first | refine GT_st_g rfl rfl rfl rfl rfl rfl rfl (V_field rfl rfl fo_24_3) ?_ | refine GT_st_g rfl rfl rfl rfl rfl rfl rfl (V_fieldA rfl rfl fo_24_3) ?_
  refine GT_st_g rfl rfl rfl rfl rfl rfl rfl (V_load rfl rfl ag_2 (CellAt.item rfl)) ?_
  refine GT_call0_g rfl rfl rfl rfl rfl rfl rfl rfl rfl rfl rfl rn_53 (fun w hw => C_outside h4) (GR_nil) ?_
  refine GT_st rfl rfl rfl rfl (V_pick_f rfl rfl rfl) ?_
  refine GT_st rfl rfl rfl rfl (V_move rfl rfl) ?_
  first | refine GT_st_g rfl rfl rfl rfl rfl rfl rfl (V_field rfl rfl fo_24_7) ?_ | refine GT_st_g rfl rfl rfl rfl rfl rfl rfl (V_fieldA rfl rfl fo_24_7) ?_
  refine GT_st_g rfl rfl rfl rfl rfl rfl rfl (V_load rfl rfl ag_2 (CellAt.item rfl)) ?_
  refine GT_call0_g rfl rfl rfl rfl rfl rfl rfl rfl rfl rfl rfl rn_53 (fun w hw => C_outside h8) (GR_nil) ?_
  refine GT_st rfl rfl rfl rfl (V_pick_f rfl rfl rfl) ?_
  refine GT_st rfl rfl rfl rfl (V_assign rfl rfl) ?_
  refine GT_nil ?_
  refine GE_seq ?_
  refine GE_seq ?_
  refine GE_slots (L' := [(1, _), (3, _)]) ⟨rfl, rfl, trivial⟩ ?_
  refine GE_plain (.st 0 (.st 1 (.st 2 (.st 3 (.st 4 (.st 5 (.st 6 (.st 7 .nil)))))))) rfl ?_
  first | refine GT_st rfl rfl rfl rfl (V_field rfl rfl fo_24_4) ?_ | refine GT_st rfl rfl rfl rfl (V_fieldA rfl rfl fo_24_4) ?_
  refine GT_st rfl rfl rfl rfl (V_load rfl rfl ag_2 (CellAt.item rfl)) ?_
  first | refine GT_st rfl rfl rfl rfl (V_field rfl rfl fo_24_5) ?_ | refine GT_st rfl rfl rfl rfl (V_fieldA rfl rfl fo_24_5) ?_
  refine GT_st rfl rfl rfl rfl (V_load rfl rfl ag_2 (CellAt.item rfl)) ?_
  first | refine GT_st rfl rfl rfl rfl (V_field rfl rfl fo_24_6) ?_ | refine GT_st rfl rfl rfl rfl (V_fieldA rfl rfl fo_24_6) ?_
  refine GT_st rfl rfl rfl rfl (V_load rfl rfl ag_2 (CellAt.item rfl)) ?_
  refine GT_st rfl rfl rfl rfl (V_build (vs := [_, _, _]) rfl rfl zc_138 pl_138 sa_138 rfl) ?_
  refine GT_st rfl rfl rfl rfl (V_move rfl rfl) ?_
  refine GT_nil ?_
  refine GE_block ?_
  refine GE_to (GE_loop (ι := Nat) (fun k => 3 - k) (fun k => [(3, .bool false), (39, .agg #[I f.lead, I f.gap, I f.tail]), (40, I k)]) (fun k => []) (fun k => k ≤ 3) ?_ 0 ?_) ⟨rfl, rfl, rfl, trivial⟩ HS.nil
  · intro k hk ih
    refine GE_seq ?_
    refine GE_plain (.st 0 .nil) rfl ?_
    refine GT_st rfl rfl rfl rfl (V_lss rfl rfl rfl) ?_
    refine GT_nil ?_
    refine GE_seq ?_
    first | refine GE_condNot rfl (fun q1 => ?_) (fun q1 => ?_) | refine GE_cond rfl (fun q1 => ?_) (fun q1 => ?_) | refine GE_condNotB rfl (fun q1 => ?_) (fun q1 => ?_) | refine GE_condB rfl (fun q1 => ?_) (fun q1 => ?_)
    · have hk3 : k < 3 := (by omega)
      refine GE_skip ?_
      refine GE_seq ?_
      refine GE_block ?_
      refine GE_seq ?_
      refine GE_plain (.st 0 (.st 1 .nil)) rfl ?_
      refine GT_st rfl rfl rfl rfl (V_indexAgg rfl rfl rfl Tryz.underlying138 ag_2 sz_2 (kk := k) rfl (by omega) (show _ = some (I ([f.lead, f.gap, f.tail].getD k 0)) by rcases (show k = 0 ∨ k = 1 ∨ k = 2 by omega) with rfl | rfl | rfl <;> rfl)) ?_
      refine GT_st rfl rfl rfl rfl (V_assign rfl rfl) ?_
      refine GT_nil ?_
      refine GE_plain (.st 0 (.st 1 (.st 2 (.ld 3 [] (.st 4 (.ld 5 [] .nil)))))) rfl ?_
      refine GT_st rfl rfl rfl rfl (V_move rfl rfl) ?_
      refine GT_st rfl rfl rfl rfl (V_move rfl rfl) ?_
      refine GT_st_g rfl rfl rfl rfl rfl rfl rfl (V_move rfl rfl) ?_
      refine GT_call0_g rfl rfl rfl rfl rfl rfl rfl rfl rfl rfl rfl rn_53 (fun w hw => C_outside (n := [f.lead, f.gap, f.tail].getD k 0) (by rcases (show k = 0 ∨ k = 1 ∨ k = 2 by omega) with rfl | rfl | rfl; exact h5; exact h6; exact h7)) (GR_nil) ?_
      refine GT_st rfl rfl rfl rfl (V_pick_f rfl rfl rfl) ?_
      refine GT_ldv rfl rfl rfl rfl rfl (V_assign rfl rfl) (GR_nil) ?_
      refine GT_nil ?_
      refine GE_inBlock ?_
      refine GE_slots (L' := [(3, _), (39, _), (40, _), (45, _), (46, _)]) ⟨rfl, rfl, rfl, rfl, rfl, trivial⟩ ?_
      refine GE_plain (.st 0 (.ld 1 [] .nil)) rfl ?_
      refine GT_st rfl rfl rfl rfl (V_add rfl rfl rfl (wrap_i64 (by omega))) ?_
      refine GT_ldv rfl rfl rfl rfl rfl (V_move rfl rfl) (GR_nil) ?_
      refine GT_nil ?_
      exact GE_to (ih (k + 1) (by omega) (by omega)) ⟨rfl, rfl, rfl, trivial⟩ HS.nil
    · skip
      refine GE_exit rfl ?_
      refine GE_seq ?_
      refine GE_seq ?_
      refine GE_plain (.st 0 .nil) rfl ?_
      refine GT_st rfl rfl rfl rfl (V_move rfl rfl) ?_
      refine GT_nil ?_
      refine GE_cond_f rfl ?_
      refine GE_skip ?_
      refine GE_seq ?_
      refine GE_slots (L' := []) trivial ?_
      refine GE_plain (.st 0 .nil) rfl ?_
      refine GT_st rfl rfl rfl rfl (V_assign rfl rfl) ?_
      refine GT_nil ?_
      refine GE_ret Tryz.func28 rfl (fun w hw => ⟨?_, hw.nil⟩)
      rfl
  · exact Nat.zero_le _
theorem C_CheckTracks {l : List Trk} (h : RdL w 3 eTrk A l) (hl : l.length ≤ 24) (ho : ∀ t ∈ l, t.Ok) : Con0 Tryz.prog 29 [.slice A l.length c] w (I 0) := by
  refine Ret_of (vs := [_]) hm none' Tryz.func29 rfl Tryz.ntmps29 rfl ?_
  dsimp only [slotsOf]
  refine GE_seq ?_
  refine GE_plain (.st 0 .nil) rfl ?_
  refine GT_st rfl rfl rfl rfl (V_assign rfl rfl) ?_
  refine GT_nil ?_
  refine GE_seq ?_
  refine GE_seq ?_
  refine GE_plain (.st 0 (.st 1 (.st 2 .nil))) rfl ?_
  refine GT_st rfl rfl rfl rfl (V_move rfl rfl) ?_
  refine GT_st rfl rfl rfl rfl (V_len rfl Tryz.underlying36 rfl) ?_
  refine GT_st rfl rfl rfl rfl (V_isF (V_gtr rfl rfl rfl) (by omega)) ?_
  refine GT_nil ?_
  refine GE_cond_f rfl ?_
  refine GE_skip ?_
  refine GE_seq ?_
  refine GE_seq ?_
  refine GE_slots (L' := [(0, _)]) ⟨rfl, trivial⟩ ?_
  refine GE_plain (.st 0 (.st 1 (.st 2 .nil))) rfl ?_
  refine GT_st rfl rfl rfl rfl (V_move rfl rfl) ?_
  refine GT_st rfl rfl rfl rfl (V_len rfl Tryz.underlying36 rfl) ?_
  refine GT_st rfl rfl rfl rfl (V_move rfl rfl) ?_
  refine GT_nil ?_
  refine GE_block ?_
  refine GE_to (GE_loop (ι := Nat) (fun k => l.length - k) (fun k => [(8, .slice A l.length c), (9, I l.length), (10, I k)]) (fun k => []) (fun k => k ≤ l.length) ?_ 0 ?_) ⟨rfl, rfl, rfl, trivial⟩ HS.nil
  · intro k hk ih
    refine GE_seq ?_
    refine GE_plain (.st 0 .nil) rfl ?_
    refine GT_st rfl rfl rfl rfl (V_lss rfl rfl rfl) ?_
    refine GT_nil ?_
    refine GE_seq ?_
    first | refine GE_condNot rfl (fun q1 => ?_) (fun q1 => ?_) | refine GE_cond rfl (fun q1 => ?_) (fun q1 => ?_) | refine GE_condNotB rfl (fun q1 => ?_) (fun q1 => ?_) | refine GE_condB rfl (fun q1 => ?_) (fun q1 => ?_)
    · have hkl : k < l.length := (by omega); have hok := ho _ (getD_memT hkl)
      refine GE_skip ?_
      refine GE_seq ?_
      refine GE_block ?_
      refine GE_seq ?_
      refine GE_plain (.st 0 (.st 1 (.ld 2 [] (.ld 3 [] .nil)))) rfl ?_
      refine GT_st rfl rfl rfl rfl (V_index rfl rfl rfl Tryz.underlying36 sz_26 (k := k) rfl hkl (h.isSome hkl)) ?_
      refine GT_st rfl rfl rfl rfl (V_loadN (vs := [_, _, _]) rfl rfl ag_26 sz_26 rfl (show CellsAt _ _ _ (eTrk (l.getD k default)) from h.ats noM hkl)) ?_
      refine GT_alloc rfl rfl rfl rfl rfl zc_26 (fun _ => GR_nil) (fun b4 => ?_)
      refine GT_store (vs := [_, _, _]) (l' := [_, _, _]) rfl rfl rfl rfl rfl rfl rfl sz_26 rfl rfl (Nat.le_of_ble_eq_true rfl) rfl (GR_nil) ?_
      refine GT_nil ?_
      refine GE_seq ?_
      refine GE_plain (.st 0 (.st 1 (.ld 2 [] (.st 3 (.st 4 (.st 5 (.ld 6 [] (.st 7 (.st 8 (.st 9 (.st 10 (.ld 11 [] (.st 12 .nil))))))))))))) rfl ?_
      first | refine GT_st rfl rfl rfl rfl (V_field rfl rfl fo_26_0) ?_ | refine GT_st rfl rfl rfl rfl (V_fieldA rfl rfl fo_26_0) ?_
      refine GT_st rfl rfl rfl rfl (V_load rfl rfl ag_2 (CellAt.item rfl)) ?_
      refine GT_call0 rfl rfl rfl rfl rfl rfl rfl rfl rn_53 (fun w hw => C_outside hok.long) (GR_nil) ?_
      refine GT_st rfl rfl rfl rfl (V_move rfl rfl) ?_
      first | refine GT_st_g rfl rfl rfl rfl rfl rfl rfl (V_field rfl rfl fo_26_1) ?_ | refine GT_st_g rfl rfl rfl rfl rfl rfl rfl (V_fieldA rfl rfl fo_26_1) ?_
      refine GT_st_g rfl rfl rfl rfl rfl rfl rfl (V_load rfl rfl ag_2 (CellAt.item rfl)) ?_
      refine GT_call0_g rfl rfl rfl rfl rfl rfl rfl rfl rfl rfl rfl rn_53 (fun w hw => C_outside hok.pitch) (GR_nil) ?_
      refine GT_st rfl rfl rfl rfl (V_pick_f rfl rfl rfl) ?_
      refine GT_st rfl rfl rfl rfl (V_move rfl rfl) ?_
      first | refine GT_st_g rfl rfl rfl rfl rfl rfl rfl (V_field rfl rfl fo_26_2) ?_ | refine GT_st_g rfl rfl rfl rfl rfl rfl rfl (V_fieldA rfl rfl fo_26_2) ?_
      refine GT_st_g rfl rfl rfl rfl rfl rfl rfl (V_load rfl rfl ag_2 (CellAt.item rfl)) ?_
      refine GT_call0_g rfl rfl rfl rfl rfl rfl rfl rfl rfl rfl rfl rn_53 (fun w hw => C_outside hok.least) (GR_nil) ?_
      refine GT_st rfl rfl rfl rfl (V_pick_f rfl rfl rfl) ?_
      refine GT_nil ?_
      refine GE_cond_f rfl ?_
      refine GE_skip ?_
      refine GE_inBlock ?_
      refine GE_slots (L' := [(8, _), (9, _), (10, _), (18, _), (19, _), (20, _), (23, _), (24, _), (25, _)]) ⟨rfl, rfl, rfl, rfl, rfl, rfl, rfl, rfl, rfl, trivial⟩ ?_
      refine GE_plain (.st 0 (.ld 1 [] .nil)) rfl ?_
      refine GT_st rfl rfl rfl rfl (V_add rfl rfl rfl (wrap_i64 (by omega))) ?_
      refine GT_ldv rfl rfl rfl rfl rfl (V_move rfl rfl) (GR_nil) ?_
      refine GT_nil ?_
      exact GE_to (ih (k + 1) (by omega) (by omega)) ⟨rfl, rfl, rfl, trivial⟩ HS.nil
    · skip
      refine GE_exit rfl ?_
      refine GE_seq ?_
      refine GE_slots (L' := []) trivial ?_
      refine GE_plain (.st 0 .nil) rfl ?_
      refine GT_st rfl rfl rfl rfl (V_assign rfl rfl) ?_
      refine GT_nil ?_
      refine GE_ret Tryz.func29 rfl (fun w hw => ⟨?_, hw.nil⟩)
      rfl
  · exact Nat.zero_le _
abbrev plC (f : Fmt) (A : Option Addr) (n c : Nat) : List Value := [.string f.nm, I f.outer, I f.inner, I f.per, I f.lead, I f.gap, I f.tail, I f.cost, .slice A n c]
theorem C_open {f : Fmt} {l : List Trk} (hf : f.Ok) (h : RdL w 3 eTrk A l) (hl : l.length ≤ 24) (ho : ∀ t ∈ l, t.Ok) : Con Tryz.prog 13 [f.val, .slice A l.length c] w (fun _ : Nat => True) (fun b => .tuple #[ptr b 0, I 0]) (fun b => [(b, blk (plC f A l.length c) 97)]) := by
  refine Ret_of (vs := [_, _]) hm none' Tryz.func13 rfl Tryz.ntmps13 rfl ?_
  dsimp only [slotsOf]
  refine GE_seq ?_
  refine GE_plain (.ld 0 [] (.st 1 (.st 2 .nil))) rfl ?_
  refine GT_box (z := [_, _, _, _, _, _, _, _]) rfl rfl rfl rfl rfl rfl rfl (fun _ => GR_nil) (fun b2 => ?_)
  refine GT_st rfl rfl rfl rfl (V_assign rfl rfl) ?_
  refine GT_st rfl rfl rfl rfl (V_assign rfl rfl) ?_
  refine GT_nil ?_
  refine GE_seq ?_
  refine GE_seq ?_
  refine GE_plain (.st 0 (.ld 1 [] (.st 2 .nil))) rfl ?_
  refine GT_st rfl rfl rfl rfl (V_loadN (vs := [_, _, _, _, _, _, _, _]) rfl rfl ag_24 sz_24 rfl (CellsAt.item rfl)) ?_
  refine GT_call0 rfl rfl rfl rfl rfl rfl rfl rfl rn_28 (fun w hw => C_CheckFormat hf) (GR_nil) ?_
  refine GT_st rfl rfl rfl rfl (V_assign rfl rfl) ?_
  refine GT_nil ?_
  refine GE_seq ?_
  refine GE_slots (L' := [(1, _), (2, _), (6, _)]) ⟨rfl, rfl, rfl, trivial⟩ ?_
  refine GE_plain (.st 0 (.st 1 .nil)) rfl ?_
  refine GT_st rfl rfl rfl rfl (V_move rfl rfl) ?_
  refine GT_st rfl rfl rfl rfl (V_isF (V_neq rfl rfl rfl) (fun q => q rfl)) ?_
  refine GT_nil ?_
  refine GE_cond_f rfl ?_
  refine GE_skip ?_
  refine GE_seq ?_
  refine GE_seq ?_
  refine GE_plain (.st 0 (.ld 1 [] (.st 2 .nil))) rfl ?_
  refine GT_st rfl rfl rfl rfl (V_move rfl rfl) ?_
  refine GT_call0 rfl rfl rfl rfl rfl rfl rfl rfl rn_29 (fun w hw => C_CheckTracks (h.sh hw) hl ho) (GR_nil) ?_
  refine GT_st rfl rfl rfl rfl (V_assign rfl rfl) ?_
  refine GT_nil ?_
  refine GE_seq ?_
  refine GE_slots (L' := [(1, _), (2, _), (7, _)]) ⟨rfl, rfl, rfl, trivial⟩ ?_
  refine GE_plain (.st 0 (.st 1 .nil)) rfl ?_
  refine GT_st rfl rfl rfl rfl (V_move rfl rfl) ?_
  refine GT_st rfl rfl rfl rfl (V_isF (V_neq rfl rfl rfl) (fun q => q rfl)) ?_
  refine GT_nil ?_
  refine GE_cond_f rfl ?_
  refine GE_skip ?_
  refine GE_seq ?_
  refine GE_plain (.st 0 (.st 1 (.st 2 (.ld 3 [] (.st 4 (.st 5 .nil)))))) rfl ?_
  refine GT_st rfl rfl rfl rfl (V_loadN (vs := [_, _, _, _, _, _, _, _]) rfl rfl ag_24 sz_24 rfl (CellsAt.item rfl)) ?_
  refine GT_st rfl rfl rfl rfl (V_move rfl rfl) ?_
  refine GT_st rfl rfl rfl rfl (V_build (vs := [_, _, _, _, _, _, _, _, _]) rfl rfl zc_97 pl_97 sa_97 rfl) ?_
  refine GT_box (z := [_, _, _, _, _, _, _, _, _]) rfl rfl rfl rfl rfl rfl rfl (fun _ => GR_nil) (fun b21 => ?_)
  refine GT_st rfl rfl rfl rfl (V_assign rfl rfl) ?_
  refine GT_st rfl rfl rfl rfl (V_assign rfl rfl) ?_
  refine GT_nil ?_
  refine GE_ret Tryz.func13 ⟨_, _, rfl, rfl, rfl⟩ (fun w hw => ?_)
  exact ⟨_, trivial, rfl, hw.hs (C := cx Tryz.prog hm 0 0 _ none' fun _ _ => True) (HS.cons rfl HS.nil)⟩
def wid (f : Fmt) (t : Trk) : Int := t.pitch * ((t.long + f.per - 1) / f.per)
theorem wid_bd {f : Fmt} {t : Trk} (hf : f.Ok) (ht : t.Ok) : (0 ≤ (t.long + f.per - 1) / f.per ∧ (t.long + f.per - 1) / f.per ≤ 16777216) ∧ (t.long + f.per - 1).tdiv f.per = (t.long + f.per - 1) / f.per ∧ 0 ≤ wid f t ∧ wid f t ≤ 68719476736 := by
  have h1 := hf.per
  have h2 := ht.long
  have h3 := ht.pitch
  have h4 : 0 ≤ (t.long + f.per - 1) / f.per := Int.ediv_nonneg (by omega) (by omega)
  have h5 : (t.long + f.per - 1) / f.per ≤ 16777216 := by
    refine Int.le_of_lt_add_one (Int.ediv_lt_of_lt_mul (by omega) ?_)
    have : (16777216 + 1) * 1 ≤ (16777216 + 1) * f.per := Int.mul_le_mul_of_nonneg_left (by omega) (by omega)
    have e : ((16777216 : Int) + 1) * f.per = 16777216 * f.per + f.per := by rw [Int.add_mul, Int.one_mul]
    have : 16777216 * 1 ≤ 16777216 * f.per := Int.mul_le_mul_of_nonneg_left (by omega) (by omega)
    omega
  refine ⟨⟨h4, h5⟩, Int.tdiv_eq_ediv_of_nonneg (by omega), Int.mul_nonneg (by omega) h4, ?_⟩
  have h6 : t.pitch * ((t.long + f.per - 1) / f.per) ≤ 4096 * 16777216 := Int.mul_le_mul h3.2 h5 h4 (by omega)
  unfold wid; omega
theorem C_width {f : Fmt} {t : Trk} {g n : Nat} (hf : f.Ok) (ht : t.Ok) (hb : BlkAt w g (plC f A n c) 97) : Con0 Tryz.prog 18 [ptr g 0, .agg #[I t.long, I t.pitch, I t.least]] w (I (wid f t)) := by
  have h1 := hf.per
  have h2 := ht.long
  obtain ⟨h3, h4, h5⟩ := wid_bd hf ht
  unfold wid at h5
  refine Ret_of (vs := [_, _]) hm none' Tryz.func18 rfl Tryz.ntmps18 rfl ?_
  dsimp only [slotsOf]
  refine GE_seq ?_
  refine GE_plain (.ld 0 [] (.st 1 .nil)) rfl ?_
  refine GT_box (z := [_, _, _]) rfl rfl rfl rfl rfl rfl rfl (fun _ => GR_nil) (fun b3 => ?_)
  refine GT_st rfl rfl rfl rfl (V_assign rfl rfl) ?_
  refine GT_nil ?_
  refine GE_seq ?_
  refine GE_drawn (.st 0 (.st 1 (.st 2 (.st 3 (.st 4 (.st 5 (.st 6 (.st 7 (.st 8 (.st 9 (.st 10 (.st 11 (.st 12 (.st 13 (.st 14 (.st 15 (.st 16 (.st 17 (.st 18 .nil))))))))))))))))))) [] (by decide +kernel) ?_
  first | refine GT_st rfl rfl rfl rfl (V_field rfl rfl fo_26_1) ?_ | refine GT_st rfl rfl rfl rfl (V_fieldA rfl rfl fo_26_1) ?_
  first | refine GT_st rfl rfl rfl rfl (V_load rfl rfl ag_2 (CellAt.item rfl)) ?_ | refine GT_st rfl rfl rfl rfl (V_load rfl rfl ag_2 (CellAt.old (hb.cell rfl) (noM _))) ?_
  first | refine GT_st rfl rfl rfl rfl (V_field rfl rfl fo_26_0) ?_ | refine GT_st rfl rfl rfl rfl (V_fieldA rfl rfl fo_26_0) ?_
  first | refine GT_st rfl rfl rfl rfl (V_load rfl rfl ag_2 (CellAt.item rfl)) ?_ | refine GT_st rfl rfl rfl rfl (V_load rfl rfl ag_2 (CellAt.old (hb.cell rfl) (noM _))) ?_
  refine GT_st rfl rfl rfl rfl (V_move rfl rfl) ?_
  first | refine GT_st rfl rfl rfl rfl (V_nilCheck rfl rfl) ?_ | refine GT_st rfl rfl rfl rfl (V_nilCheck_func rfl rfl) ?_ | refine GT_st rfl rfl rfl rfl (V_nilCheck_yield rfl rfl) ?_
  first | refine GT_st rfl rfl rfl rfl (V_field rfl rfl fo_97_0) ?_ | refine GT_st rfl rfl rfl rfl (V_fieldA rfl rfl fo_97_0) ?_
  first | refine GT_st rfl rfl rfl rfl (V_field rfl rfl fo_24_3) ?_ | refine GT_st rfl rfl rfl rfl (V_fieldA rfl rfl fo_24_3) ?_
  first | refine GT_st rfl rfl rfl rfl (V_load rfl rfl ag_2 (CellAt.item rfl)) ?_ | refine GT_st rfl rfl rfl rfl (V_load rfl rfl ag_2 (CellAt.old (hb.cell rfl) (noM _))) ?_
  refine GT_st rfl rfl rfl rfl (V_add rfl rfl rfl (wrap_i64 (by omega))) ?_
  refine GT_st rfl rfl rfl rfl (V_sub rfl rfl rfl (wrap_i64 (by omega))) ?_
  refine GT_st rfl rfl rfl rfl (V_move rfl rfl) ?_
  first | refine GT_st rfl rfl rfl rfl (V_nilCheck rfl rfl) ?_ | refine GT_st rfl rfl rfl rfl (V_nilCheck_func rfl rfl) ?_ | refine GT_st rfl rfl rfl rfl (V_nilCheck_yield rfl rfl) ?_
  first | refine GT_st rfl rfl rfl rfl (V_field rfl rfl fo_97_0) ?_ | refine GT_st rfl rfl rfl rfl (V_fieldA rfl rfl fo_97_0) ?_
  first | refine GT_st rfl rfl rfl rfl (V_field rfl rfl fo_24_3) ?_ | refine GT_st rfl rfl rfl rfl (V_fieldA rfl rfl fo_24_3) ?_
  first | refine GT_st rfl rfl rfl rfl (V_load rfl rfl ag_2 (CellAt.item rfl)) ?_ | refine GT_st rfl rfl rfl rfl (V_load rfl rfl ag_2 (CellAt.old (hb.cell rfl) (noM _))) ?_
  refine GT_st rfl rfl rfl rfl (V_quo rfl rfl rfl (by omega) ((wrap_i64 (by rw [h4]; omega)).trans h4)) ?_
  refine GT_st rfl rfl rfl rfl (V_mul rfl rfl rfl ((wrap_i64 (by omega)))) ?_
  refine GT_st rfl rfl rfl rfl (V_assign rfl rfl) ?_
  refine GT_nil ?_
  refine GE_ret Tryz.func18 rfl (fun w hw => ⟨?_, hw.nil⟩)
  rfl
end
end Go.Proofs.YtogljfjbilndnaaGreatDoor.Side
/- The bands of one track, walked. -/
namespace Go.Proofs.YtogljfjbilndnaaGreatDoor.Side
open Go.Sx Go.Proofs Go.RowKit

structure Bnd where
  track : Int
  frm : Int
  to : Int
instance : Inhabited Bnd := ⟨⟨0, 0, 0⟩⟩
def eBnd (x : Bnd) : List Value := [I x.track, I x.frm, I x.to]
theorem eBnd_len (x : Bnd) : (eBnd x).length = 3 := rfl
theorem eBnd_one : ∀ x, ∀ u ∈ eBnd x, u.oneCell' = true := by intro x u hu; simp only [eBnd, List.mem_cons, List.not_mem_nil, or_false] at hu; rcases hu with rfl | rfl | rfl <;> rfl
def eN (x : Int) : List Value := [I x]
theorem eN_len (x : Int) : (eN x).length = 1 := rfl
theorem eN_one : ∀ x, ∀ u ∈ eN x, u.oneCell' = true := by intro x u hu; simp only [eN, List.mem_singleton] at hu; subst hu; rfl
def bnd1 (f : Fmt) (t : Trk) : Bnd := ⟨0, f.outer - f.lead, f.outer - f.lead - wid f t⟩
def layE (f : Fmt) (t : Trk) : Int := if f.outer - f.lead - wid f t < t.least then 20 else if f.outer - f.lead - wid f t - f.tail < f.inner then 14 else 0
def layN (f : Fmt) (t : Trk) : Int := if f.outer - f.lead - wid f t < t.least then 0 else 1
def layB (f : Fmt) (t : Trk) : List Bnd := if layE f t = 0 then [bnd1 f t] else []
section
variable {w : World} {A A2 : Option Addr} {c c2 : Nat} {f : Fmt} {t : Trk} {g : Nat}
set_option maxRecDepth 20000 in
theorem C_lay (hf : f.Ok) (ht : t.Ok) (hb : BlkAt w g (plC f A 1 c) 97) (h : RdL w 3 eTrk A [t]) (ho : RdL w 1 eN A2 [0]) :
    Con Tryz.prog 15 [ptr g 0, .slice A2 1 c2] w (fun y : Option Addr × Nat × Items => Own 3 50 eBnd (layB f t) (.slice y.1 (layB f t).length y.2.1) y.2.2) (fun y => .tuple #[.slice y.1 (layB f t).length y.2.1, I (layN f t), I (layE f t)]) (fun y => y.2.2) := by
  have h1 := hf.outer
  have h2 := hf.lead
  have h3 := hf.tail
  have h4 := hf.gap
  obtain ⟨_, _, h5⟩ := wid_bd hf ht
  have z1 : 0 < ([t] : List Trk).length := Nat.zero_lt_one
  have z0 : 0 < ([0] : List Int).length := Nat.zero_lt_one
  refine Ret_of (vs := [_, _]) hm none' Tryz.func15 rfl Tryz.ntmps15 rfl ?_
  dsimp only [slotsOf]
  refine GE_seq ?_
  refine GE_plain (.st 0 (.st 1 (.st 2 .nil))) rfl ?_
  refine GT_st rfl rfl rfl rfl (V_assign rfl rfl) ?_
  refine GT_st rfl rfl rfl rfl (V_assign rfl rfl) ?_
  refine GT_st rfl rfl rfl rfl (V_assign rfl rfl) ?_
  refine GT_nil ?_
  refine GE_seq ?_
  refine GE_plain (.st 0 .nil) rfl ?_
  refine GT_st rfl rfl rfl rfl (V_assign rfl rfl) ?_
  refine GT_nil ?_
  refine GE_seq ?_
  refine GE_drawn (.st 0 (.st 1 (.st 2 (.st 3 (.st 4 (.st 5 (.st 6 (.st 7 (.st 8 (.st 9 (.st 10 (.st 11 .nil)))))))))))) [] (by decide +kernel) ?_
  refine GT_st rfl rfl rfl rfl (V_move rfl rfl) ?_
  first | refine GT_st rfl rfl rfl rfl (V_nilCheck rfl rfl) ?_ | refine GT_st rfl rfl rfl rfl (V_nilCheck_func rfl rfl) ?_ | refine GT_st rfl rfl rfl rfl (V_nilCheck_yield rfl rfl) ?_
  first | refine GT_st rfl rfl rfl rfl (V_field rfl rfl fo_97_0) ?_ | refine GT_st rfl rfl rfl rfl (V_fieldA rfl rfl fo_97_0) ?_
  first | refine GT_st rfl rfl rfl rfl (V_field rfl rfl fo_24_1) ?_ | refine GT_st rfl rfl rfl rfl (V_fieldA rfl rfl fo_24_1) ?_
  first | refine GT_st rfl rfl rfl rfl (V_load rfl rfl ag_2 (CellAt.item rfl)) ?_ | refine GT_st rfl rfl rfl rfl (V_load rfl rfl ag_2 (CellAt.old (hb.cell rfl) (noM _))) ?_
  refine GT_st rfl rfl rfl rfl (V_move rfl rfl) ?_
  first | refine GT_st rfl rfl rfl rfl (V_nilCheck rfl rfl) ?_ | refine GT_st rfl rfl rfl rfl (V_nilCheck_func rfl rfl) ?_ | refine GT_st rfl rfl rfl rfl (V_nilCheck_yield rfl rfl) ?_
  first | refine GT_st rfl rfl rfl rfl (V_field rfl rfl fo_97_0) ?_ | refine GT_st rfl rfl rfl rfl (V_fieldA rfl rfl fo_97_0) ?_
  first | refine GT_st rfl rfl rfl rfl (V_field rfl rfl fo_24_4) ?_ | refine GT_st rfl rfl rfl rfl (V_fieldA rfl rfl fo_24_4) ?_
  first | refine GT_st rfl rfl rfl rfl (V_load rfl rfl ag_2 (CellAt.item rfl)) ?_ | refine GT_st rfl rfl rfl rfl (V_load rfl rfl ag_2 (CellAt.old (hb.cell rfl) (noM _))) ?_
  refine GT_st rfl rfl rfl rfl (V_sub rfl rfl rfl (wrap_i64 (by omega))) ?_
  refine GT_st rfl rfl rfl rfl (V_assign rfl rfl) ?_
  refine GT_nil ?_
  refine GE_seq ?_
  refine GE_seq ?_
  refine GE_slots (L' := [(0, _), (1, _), (7, _), (8, _)]) ⟨rfl, rfl, rfl, rfl, trivial⟩ ?_
  refine GE_plain (.st 0 (.st 1 (.st 2 .nil))) rfl ?_
  refine GT_st rfl rfl rfl rfl (V_move rfl rfl) ?_
  refine GT_st rfl rfl rfl rfl (V_len rfl Tryz.underlying37 rfl) ?_
  refine GT_st rfl rfl rfl rfl (V_move rfl rfl) ?_
  refine GT_nil ?_
  refine GE_block ?_
  refine GE_to (GE_loop (ι := Nat × (Option Addr × Nat × Items)) (fun z => 1 - z.1) (fun z => [(0, ptr g 0), (1, .slice A2 1 c2), (7, .slice z.2.1 z.1 z.2.2.1), (8, I (if z.1 = 0 then f.outer - f.lead else f.outer - f.lead - wid f t)), (23, .slice A2 1 c2), (24, I 1), (25, I z.1)]) (fun z => z.2.2.2) (fun z => z.1 ≤ 1 ∧ Own 3 50 eBnd (if z.1 = 0 then [] else [bnd1 f t]) (.slice z.2.1 z.1 z.2.2.1) z.2.2.2 ∧ (z.1 = 1 → ¬ f.outer - f.lead - wid f t < t.least)) ?_ (0, (none, 0, [])) ?_) ⟨rfl, rfl, rfl, rfl, rfl, rfl, rfl, trivial⟩ HS.nil
  · rintro ⟨k, y⟩ ⟨hk, hO, hq⟩ ih; dsimp only at hk hO hq ih ⊢
    refine GE_seq ?_
    refine GE_plain (.st 0 .nil) rfl ?_
    refine GT_st rfl rfl rfl rfl (V_lss rfl rfl rfl) ?_
    refine GT_nil ?_
    refine GE_seq ?_
    first | refine GE_condNot rfl (fun q1 => ?_) (fun q1 => ?_) | refine GE_cond rfl (fun q1 => ?_) (fun q1 => ?_) | refine GE_condNotB rfl (fun q1 => ?_) (fun q1 => ?_) | refine GE_condB rfl (fun q1 => ?_) (fun q1 => ?_)
    · obtain rfl : k = 0 := (by omega)
      refine GE_skip ?_
      refine GE_seq ?_
      refine GE_block ?_
      refine GE_seq ?_
      refine GE_plain (.st 0 (.st 1 (.st 2 (.st 3 (.st 4 .nil))))) rfl ?_
      refine GT_st rfl rfl rfl rfl (V_move rfl rfl) ?_
      refine GT_st rfl rfl rfl rfl (V_index rfl rfl rfl Tryz.underlying37 sz_3 (k := 0) rfl Nat.zero_lt_one (ho.isSome (k := 0) z0)) ?_
      refine GT_st rfl rfl rfl rfl (V_load rfl rfl ag_3 (ho.at0 (k := 0) noM z0 rfl)) ?_
      refine GT_st rfl rfl rfl rfl (V_assign rfl rfl) ?_
      refine GT_st rfl rfl rfl rfl (V_assign rfl rfl) ?_
      refine GT_nil ?_
      refine GE_seq ?_
      refine GE_seq ?_
      refine GE_slots (L' := [(0, _), (1, _), (7, _), (8, _), (9, _), (10, _), (23, _), (24, _), (25, _)]) ⟨rfl, rfl, rfl, rfl, rfl, rfl, rfl, rfl, rfl, trivial⟩ ?_
      refine GE_plain (.st 0 (.st 1 .nil)) rfl ?_
      refine GT_st rfl rfl rfl rfl (V_move rfl rfl) ?_
      refine GT_st rfl rfl rfl rfl (V_isF (V_gtr rfl rfl rfl) (by decide)) ?_
      refine GT_nil ?_
      refine GE_cond_f rfl ?_
      refine GE_skip ?_
      refine GE_seq ?_
      refine GE_plain (.st 0 (.st 1 (.st 2 (.st 3 (.st 4 (.st 5 (.st 6 (.st 7 (.st 8 (.st 9 (.st 10 (.ld 11 [] (.st 12 (.st 13 (.ld 14 [] (.ld 15 [] .nil)))))))))))))))) rfl ?_
      refine GT_st rfl rfl rfl rfl (V_move rfl rfl) ?_
      refine GT_st rfl rfl rfl rfl (V_move rfl rfl) ?_
      refine GT_st rfl rfl rfl rfl (V_move rfl rfl) ?_
      refine GT_st rfl rfl rfl rfl (V_move rfl rfl) ?_
      refine GT_st rfl rfl rfl rfl (V_move rfl rfl) ?_
      first | refine GT_st rfl rfl rfl rfl (V_nilCheck rfl rfl) ?_ | refine GT_st rfl rfl rfl rfl (V_nilCheck_func rfl rfl) ?_ | refine GT_st rfl rfl rfl rfl (V_nilCheck_yield rfl rfl) ?_
      first | refine GT_st rfl rfl rfl rfl (V_field rfl rfl fo_97_1) ?_ | refine GT_st rfl rfl rfl rfl (V_fieldA rfl rfl fo_97_1) ?_
      first | refine GT_st rfl rfl rfl rfl (V_load rfl rfl ag_36 (CellAt.item rfl)) ?_ | refine GT_st rfl rfl rfl rfl (V_load rfl rfl ag_36 (CellAt.old (hb.cell rfl) (noM _))) ?_
      refine GT_st rfl rfl rfl rfl (V_move rfl rfl) ?_
      refine GT_st rfl rfl rfl rfl (V_index rfl rfl rfl Tryz.underlying36 sz_26 (k := 0) rfl Nat.zero_lt_one (h.isSome (k := 0) z1)) ?_
      refine GT_st rfl rfl rfl rfl (V_loadN (vs := [_, _, _]) rfl rfl ag_26 sz_26 rfl (show CellsAt _ _ _ (eTrk t) from h.ats (k := 0) noM z1)) ?_
      refine GT_call0 rfl rfl rfl rfl rfl rfl rfl rfl rn_18 (fun w hw => C_width (t := t) hf ht (hb.sh hw)) (GR_nil) ?_
      refine GT_st rfl rfl rfl rfl (V_sub rfl rfl rfl (wrap_i64 (by omega))) ?_
      refine GT_st rfl rfl rfl rfl (V_build (vs := [_, _, _]) rfl rfl zc_50 pl_50 sa_50 rfl) ?_
      refine GT_alloc rfl rfl rfl rfl rfl zc_50 (fun _ => GR_nil) (fun b11 => ?_)
      refine GT_store (vs := [_, _, _]) (l' := [_, _, _]) rfl rfl rfl rfl rfl rfl rfl sz_50 rfl rfl (Nat.le_of_ble_eq_true rfl) rfl (GR_nil) ?_
      refine GT_nil ?_
      refine GE_seq ?_
      refine GE_seq ?_
      refine GE_slots (L' := [(0, _), (1, _), (7, _), (9, _), (10, _), (11, _), (23, _), (24, _), (25, _)]) ⟨rfl, rfl, rfl, rfl, rfl, rfl, rfl, rfl, rfl, trivial⟩ ?_
      refine GE_plain (.st 0 (.st 1 (.st 2 .nil))) rfl ?_
      first | refine GT_st rfl rfl rfl rfl (V_field rfl rfl fo_50_2) ?_ | refine GT_st rfl rfl rfl rfl (V_fieldA rfl rfl fo_50_2) ?_
      first | refine GT_st rfl rfl rfl rfl (V_load rfl rfl ag_2 (CellAt.item rfl)) ?_ | refine GT_st rfl rfl rfl rfl (V_load rfl rfl ag_2 (CellAt.old (hb.cell rfl) (noM _))) ?_
      refine GT_st rfl rfl rfl rfl (V_assign rfl rfl) ?_
      refine GT_nil ?_
      refine GE_seq ?_
      refine GE_plain (.st 0 (.st 1 (.st 2 (.st 3 (.st 4 (.st 5 (.st 6 (.st 7 (.st 8 (.st 9 .nil)))))))))) rfl ?_
      refine GT_st rfl rfl rfl rfl (V_move rfl rfl) ?_
      refine GT_st rfl rfl rfl rfl (V_move rfl rfl) ?_
      first | refine GT_st rfl rfl rfl rfl (V_nilCheck rfl rfl) ?_ | refine GT_st rfl rfl rfl rfl (V_nilCheck_func rfl rfl) ?_ | refine GT_st rfl rfl rfl rfl (V_nilCheck_yield rfl rfl) ?_
      first | refine GT_st rfl rfl rfl rfl (V_field rfl rfl fo_97_1) ?_ | refine GT_st rfl rfl rfl rfl (V_fieldA rfl rfl fo_97_1) ?_
      first | refine GT_st rfl rfl rfl rfl (V_load rfl rfl ag_36 (CellAt.item rfl)) ?_ | refine GT_st rfl rfl rfl rfl (V_load rfl rfl ag_36 (CellAt.old (hb.cell rfl) (noM _))) ?_
      refine GT_st rfl rfl rfl rfl (V_move rfl rfl) ?_
      refine GT_st rfl rfl rfl rfl (V_index rfl rfl rfl Tryz.underlying36 sz_26 (k := 0) rfl Nat.zero_lt_one (h.isSome (k := 0) z1)) ?_
      first | refine GT_st rfl rfl rfl rfl (V_field rfl rfl fo_26_2) ?_ | refine GT_st rfl rfl rfl rfl (V_fieldA rfl rfl fo_26_2) ?_
      refine GT_st rfl rfl rfl rfl (V_load rfl rfl ag_2 (show CellAt _ _ _ (I t.least) from h.at1 (k := 0) noM z1 rfl)) ?_
      refine GT_st rfl rfl rfl rfl (V_lss rfl rfl rfl) ?_
      refine GT_nil ?_
      first | refine GE_condNot rfl (fun q3 => ?_) (fun q3 => ?_) | refine GE_cond rfl (fun q3 => ?_) (fun q3 => ?_) | refine GE_condNotB rfl (fun q3 => ?_) (fun q3 => ?_) | refine GE_condB rfl (fun q3 => ?_) (fun q3 => ?_)
      · skip
        refine GE_seq ?_
        refine GE_slots (L' := [(9, _)]) ⟨rfl, trivial⟩ ?_
        refine GE_plain (.st 0 (.st 1 (.st 2 (.st 3 .nil)))) rfl ?_
        refine GT_st rfl rfl rfl rfl (V_move rfl rfl) ?_
        refine GT_st rfl rfl rfl rfl (V_assign rfl rfl) ?_
        refine GT_st rfl rfl rfl rfl (V_assign rfl rfl) ?_
        refine GT_st rfl rfl rfl rfl (V_assign rfl rfl) ?_
        refine GT_nil ?_
        refine GE_ret Tryz.func15 ⟨_, _, _, rfl, rfl, rfl, rfl⟩ (fun w hw => ?_)
        have e1 : layE f t = 20 := if_pos q3; have e2 : layB f t = [] := if_neg (by rw [e1]; decide); have e3 : layN f t = 0 := if_pos q3; exact ⟨(none, 0, []), by rw [e2]; exact Own.nil, by rw [e1, e2, e3] <;> rfl, hw.nil⟩
      · skip
        refine GE_skip ?_
        refine GE_slots (L' := [(0, _), (1, _), (7, _), (8, _), (11, _), (23, _), (24, _), (25, _)]) ⟨rfl, rfl, rfl, rfl, rfl, rfl, rfl, rfl, trivial⟩ ?_
        refine GE_plain (.st 0 (.st 1 (.ld 2 [] (.ld 3 [] (.ld 4 [] .nil))))) rfl ?_
        refine GT_st rfl rfl rfl rfl (V_move rfl rfl) ?_
        refine GT_st rfl rfl rfl rfl (V_loadN (vs := [_, _, _]) rfl rfl ag_50 sz_50 rfl (CellsAt.item rfl)) ?_
        refine GT_buildSlice (z := [_, _, _]) rfl rfl rfl rfl rfl Tryz.underlying32 zc_50 sz_50 (by decide) rfl rfl (fun _ => GR_nil) (fun b68 => ?_)
        refine GT_append (enc := eBnd) (l := []) (m := [bnd1 f t]) rfl rfl rfl rfl rfl rfl rfl hO (fun w m => RdL.own' m eBnd_len) Tryz.underlying32 zc_50 sz_50 ⟨rfl, by decide⟩ by_50 ⟨by simp only [List.length_nil, List.length_singleton]; omega, by simp only [List.length_nil, List.length_singleton]; omega⟩ eBnd_len eBnd_one (fun _ _ _ _ => GR_nil) (fun A3 c3 I3 hO3 => ?_)
        refine GT_ldv rfl rfl rfl rfl rfl (V_assign rfl rfl) (GR_nil) ?_
        refine GT_nil ?_
        refine GE_inBlock ?_
        refine GE_slots (L' := [(0, _), (1, _), (7, _), (8, _), (23, _), (24, _), (25, _)]) ⟨rfl, rfl, rfl, rfl, rfl, rfl, rfl, trivial⟩ ?_
        refine GE_plain (.st 0 (.ld 1 [] .nil)) rfl ?_
        refine GT_st rfl rfl rfl rfl (V_add rfl rfl rfl (wrap_i64 (by omega))) ?_
        refine GT_ldv rfl rfl rfl rfl rfl (V_move rfl rfl) (GR_nil) ?_
        refine GT_nil ?_
        exact GE_to (ih (1, (A3, c3, I3)) ⟨Nat.le_refl _, hO3, fun _ => q3⟩ (show 1 - 1 < 1 - 0 by decide)) ⟨rfl, rfl, rfl, rfl, rfl, rfl, rfl, trivial⟩ HS.last
    · obtain rfl : k = 1 := (by omega); have hq2 := hq rfl
      refine GE_exit rfl ?_
      refine GE_seq ?_
      refine GE_seq ?_
      refine GE_slots (L' := [(0, _), (1, _), (7, _), (8, _)]) ⟨rfl, rfl, rfl, rfl, trivial⟩ ?_
      refine GE_drawn (.st 0 (.st 1 (.st 2 (.st 3 (.st 4 (.st 5 (.st 6 (.st 7 (.st 8 (.st 9 (.st 10 (.st 11 (.st 12 .nil))))))))))))) [] (by decide +kernel) ?_
      refine GT_st rfl rfl rfl rfl (V_move rfl rfl) ?_
      refine GT_st rfl rfl rfl rfl (V_move rfl rfl) ?_
      first | refine GT_st rfl rfl rfl rfl (V_nilCheck rfl rfl) ?_ | refine GT_st rfl rfl rfl rfl (V_nilCheck_func rfl rfl) ?_ | refine GT_st rfl rfl rfl rfl (V_nilCheck_yield rfl rfl) ?_
      first | refine GT_st rfl rfl rfl rfl (V_field rfl rfl fo_97_0) ?_ | refine GT_st rfl rfl rfl rfl (V_fieldA rfl rfl fo_97_0) ?_
      first | refine GT_st rfl rfl rfl rfl (V_field rfl rfl fo_24_6) ?_ | refine GT_st rfl rfl rfl rfl (V_fieldA rfl rfl fo_24_6) ?_
      first | refine GT_st rfl rfl rfl rfl (V_load rfl rfl ag_2 (CellAt.item rfl)) ?_ | refine GT_st rfl rfl rfl rfl (V_load rfl rfl ag_2 (CellAt.old (hb.cell rfl) (noM _))) ?_
      refine GT_st rfl rfl rfl rfl (V_sub rfl rfl rfl (wrap_i64 (by omega))) ?_
      refine GT_st rfl rfl rfl rfl (V_move rfl rfl) ?_
      first | refine GT_st rfl rfl rfl rfl (V_nilCheck rfl rfl) ?_ | refine GT_st rfl rfl rfl rfl (V_nilCheck_func rfl rfl) ?_ | refine GT_st rfl rfl rfl rfl (V_nilCheck_yield rfl rfl) ?_
      first | refine GT_st rfl rfl rfl rfl (V_field rfl rfl fo_97_0) ?_ | refine GT_st rfl rfl rfl rfl (V_fieldA rfl rfl fo_97_0) ?_
      first | refine GT_st rfl rfl rfl rfl (V_field rfl rfl fo_24_2) ?_ | refine GT_st rfl rfl rfl rfl (V_fieldA rfl rfl fo_24_2) ?_
      first | refine GT_st rfl rfl rfl rfl (V_load rfl rfl ag_2 (CellAt.item rfl)) ?_ | refine GT_st rfl rfl rfl rfl (V_load rfl rfl ag_2 (CellAt.old (hb.cell rfl) (noM _))) ?_
      refine GT_st rfl rfl rfl rfl (V_lss rfl rfl rfl) ?_
      refine GT_nil ?_
      first | refine GE_condNot rfl (fun q4 => ?_) (fun q4 => ?_) | refine GE_cond rfl (fun q4 => ?_) (fun q4 => ?_) | refine GE_condNotB rfl (fun q4 => ?_) (fun q4 => ?_) | refine GE_condB rfl (fun q4 => ?_) (fun q4 => ?_)
      · have q4 : f.outer - f.lead - wid f t - f.tail < f.inner := q4
        refine GE_seq ?_
        refine GE_slots (L' := [(1, _)]) ⟨rfl, trivial⟩ ?_
        refine GE_plain (.st 0 (.st 1 (.st 2 (.st 3 (.st 4 .nil))))) rfl ?_
        refine GT_st rfl rfl rfl rfl (V_move rfl rfl) ?_
        refine GT_st rfl rfl rfl rfl (V_len rfl Tryz.underlying37 rfl) ?_
        refine GT_st rfl rfl rfl rfl (V_assign rfl rfl) ?_
        refine GT_st rfl rfl rfl rfl (V_assign rfl rfl) ?_
        refine GT_st rfl rfl rfl rfl (V_assign rfl rfl) ?_
        refine GT_nil ?_
        refine GE_ret Tryz.func15 ⟨_, _, _, rfl, rfl, rfl, rfl⟩ (fun w hw => ?_)
        have e1 : layE f t = 14 := (by rw [layE, if_neg hq2, if_pos q4]); have e2 : layB f t = [] := if_neg (by rw [e1]; decide); have e3 : layN f t = 1 := if_neg hq2; exact ⟨(none, 0, []), by rw [e2]; exact Own.nil, by rw [e1, e2, e3] <;> rfl, hw.nil⟩
      · have q4 : ¬ f.outer - f.lead - wid f t - f.tail < f.inner := q4
        refine GE_skip ?_
        refine GE_seq ?_
        refine GE_slots (L' := [(1, _), (7, _)]) ⟨rfl, rfl, trivial⟩ ?_
        refine GE_plain (.st 0 (.st 1 (.st 2 (.st 3 (.st 4 (.st 5 .nil)))))) rfl ?_
        refine GT_st rfl rfl rfl rfl (V_move rfl rfl) ?_
        refine GT_st rfl rfl rfl rfl (V_move rfl rfl) ?_
        refine GT_st rfl rfl rfl rfl (V_len rfl Tryz.underlying37 rfl) ?_
        refine GT_st rfl rfl rfl rfl (V_assign rfl rfl) ?_
        refine GT_st rfl rfl rfl rfl (V_assign rfl rfl) ?_
        refine GT_st rfl rfl rfl rfl (V_assign rfl rfl) ?_
        refine GT_nil ?_
        refine GE_ret Tryz.func15 ⟨_, _, _, rfl, rfl, rfl, rfl⟩ (fun w hw => ?_)
        have e1 : layE f t = 0 := (by rw [layE, if_neg hq2, if_neg q4]); have e2 : layB f t = [bnd1 f t] := if_pos e1; have e3 : layN f t = 1 := if_neg hq2; exact ⟨y, by rw [e2]; exact hO, by rw [e1, e2, e3] <;> rfl, hw.hs (C := cx Tryz.prog hm 0 0 _ none' fun _ _ => True) HS.last⟩
  · exact ⟨Nat.zero_le _, Own.nil, fun q => by cases q⟩
theorem C_Index0 {v : Int} : Con0 Tryz.prog 30 [.slice A 0 c, I v] w (I (-1)) := by
  refine Ret_of (vs := [_, _]) hm none' Tryz.func30 rfl Tryz.ntmps30 rfl ?_
  dsimp only [slotsOf]
  refine GE_seq ?_
  refine GE_plain (.st 0 .nil) rfl ?_
  refine GT_st rfl rfl rfl rfl (V_assign rfl rfl) ?_
  refine GT_nil ?_
  refine GE_seq ?_
  refine GE_seq ?_
  refine GE_plain (.st 0 (.st 1 (.st 2 .nil))) rfl ?_
  refine GT_st rfl rfl rfl rfl (V_move rfl rfl) ?_
  refine GT_st rfl rfl rfl rfl (V_len rfl Tryz.underlying37 rfl) ?_
  refine GT_st rfl rfl rfl rfl (V_move rfl rfl) ?_
  refine GT_nil ?_
  refine GE_block ?_
  refine GE_to (GE_loop (ι := Unit) (fun _z => 0) (fun _z => [(0, .slice A 0 c), (1, I v), (7, I 0), (8, I 0)]) (fun _z => []) (fun _z => True) ?_ () ?_) ⟨rfl, rfl, rfl, rfl, trivial⟩ HS.nil
  · rintro _ _ ih
    refine GE_seq ?_
    refine GE_plain (.st 0 .nil) rfl ?_
    refine GT_st rfl rfl rfl rfl (V_isF (V_lss rfl rfl rfl) (by decide)) ?_
    refine GT_nil ?_
    refine GE_seq ?_
    refine GE_cond_f rfl ?_
    refine GE_exit rfl ?_
    refine GE_seq ?_
    refine GE_slots (L' := []) trivial ?_
    refine GE_plain (.st 0 .nil) rfl ?_
    refine GT_st rfl rfl rfl rfl (V_assign rfl rfl) ?_
    refine GT_nil ?_
    refine GE_ret Tryz.func30 rfl (fun w hw => ⟨?_, hw.nil⟩)
    rfl
  · exact trivial
theorem C_Contains0 {v : Int} : Con0 Tryz.prog 14 [.slice A 0 c, I v] w (.bool false) := by
  refine Ret_of (vs := [_, _]) hm none' Tryz.func14 rfl Tryz.ntmps14 rfl ?_
  dsimp only [slotsOf]
  refine GE_seq ?_
  refine GE_plain (.st 0 .nil) rfl ?_
  refine GT_st rfl rfl rfl rfl (V_assign rfl rfl) ?_
  refine GT_nil ?_
  refine GE_seq ?_
  refine GE_plain (.st 0 (.st 1 (.ld 2 [] (.st 3 (.st 4 .nil))))) rfl ?_
  refine GT_st rfl rfl rfl rfl (V_move rfl rfl) ?_
  refine GT_st rfl rfl rfl rfl (V_move rfl rfl) ?_
  refine GT_call0 rfl rfl rfl rfl rfl rfl rfl rfl rn_30 (fun w hw => C_Index0) (GR_nil) ?_
  refine GT_st rfl rfl rfl rfl (V_geq rfl rfl rfl) ?_
  refine GT_st rfl rfl rfl rfl (V_assign rfl rfl) ?_
  refine GT_nil ?_
  refine GE_ret Tryz.func14 rfl (fun w hw => ⟨?_, hw.nil⟩)
  rfl
set_option maxRecDepth 20000 in
theorem C_Lay (hf : f.Ok) (ht : t.Ok) (h : RdL w 3 eTrk A [t]) (ho : RdL w 1 eN A2 [0]) :
    Con Tryz.prog 6 [f.val, .slice A 1 c, .slice A2 1 c2] w (fun y : Option Addr × Nat × Items => Own 3 50 eBnd (layB f t) (.slice y.1 (layB f t).length y.2.1) y.2.2) (fun y => .tuple #[.slice y.1 (layB f t).length y.2.1, I (layN f t), I (layE f t)]) (fun y => y.2.2) := by
  have z0 : 0 < ([0] : List Int).length := Nat.zero_lt_one
  refine Ret_of (vs := [_, _, _]) hm none' Tryz.func6 rfl Tryz.ntmps6 rfl ?_
  dsimp only [slotsOf]
  refine GE_seq ?_
  refine GE_plain (.ld 0 [] (.st 1 (.st 2 (.st 3 .nil)))) rfl ?_
  refine GT_box (z := [_, _, _, _, _, _, _, _]) rfl rfl rfl rfl rfl rfl rfl (fun _ => GR_nil) (fun b3 => ?_)
  refine GT_st rfl rfl rfl rfl (V_assign rfl rfl) ?_
  refine GT_st rfl rfl rfl rfl (V_assign rfl rfl) ?_
  refine GT_st rfl rfl rfl rfl (V_assign rfl rfl) ?_
  refine GT_nil ?_
  refine GE_seq ?_
  refine GE_slots (L' := [(1, _), (2, _), (3, _)]) ⟨rfl, rfl, rfl, trivial⟩ ?_
  refine GE_plain (.st 0 (.st 1 (.ld 2 [] (.st 3 (.st 4 (.st 5 (.st 6 (.st 7 .nil)))))))) rfl ?_
  refine GT_st rfl rfl rfl rfl (V_loadN (vs := [_, _, _, _, _, _, _, _]) rfl rfl ag_24 sz_24 rfl (CellsAt.item rfl)) ?_
  refine GT_st rfl rfl rfl rfl (V_move rfl rfl) ?_
  refine GT_call rfl rfl rfl rfl rfl rfl rfl rfl rn_13 (fun w hw => C_open (l := [t]) hf (h.sh hw) (show 1 ≤ 24 by decide) (fun x hx => by rw [List.mem_singleton] at hx; subst hx; exact ht)) (fun _ _ => GR_nil) (fun b _ => ?_)
  refine GT_st rfl rfl rfl rfl (V_move rfl rfl) ?_
  refine GT_st rfl rfl rfl rfl (V_extract rfl rfl rfl) ?_
  refine GT_st rfl rfl rfl rfl (V_extract rfl rfl rfl) ?_
  refine GT_st rfl rfl rfl rfl (V_assign rfl rfl) ?_
  refine GT_st rfl rfl rfl rfl (V_assign rfl rfl) ?_
  refine GT_nil ?_
  refine GE_seq ?_
  refine GE_seq ?_
  refine GE_slots (L' := [(1, _), (2, _), (9, _), (10, _)]) ⟨rfl, rfl, rfl, rfl, trivial⟩ ?_
  refine GE_plain (.st 0 (.st 1 .nil)) rfl ?_
  refine GT_st rfl rfl rfl rfl (V_move rfl rfl) ?_
  refine GT_st rfl rfl rfl rfl (V_isF (V_neq rfl rfl rfl) (fun q => q rfl)) ?_
  refine GT_nil ?_
  refine GE_cond_f rfl ?_
  refine GE_skip ?_
  refine GE_seq ?_
  refine GE_seq ?_
  refine GE_plain (.st 0 (.st 1 (.st 2 .nil))) rfl ?_
  refine GT_st rfl rfl rfl rfl (V_move rfl rfl) ?_
  refine GT_st rfl rfl rfl rfl (V_len rfl Tryz.underlying37 rfl) ?_
  refine GT_st rfl rfl rfl rfl (V_move rfl rfl) ?_
  refine GT_nil ?_
  refine GE_block ?_
  refine GE_to (GE_loop (ι := Nat) (fun k => 1 - k) (fun k => [(1, .slice A 1 c), (2, .slice A2 1 c2), (9, ptr b 0), (22, .slice A2 1 c2), (23, I 1), (24, I k)]) (fun k => [(b, blk (plC f A 1 c) 97)]) (fun k => k ≤ 1) ?_ 0 ?_) ⟨rfl, rfl, rfl, rfl, rfl, rfl, trivial⟩ (HS.cons rfl HS.nil)
  · intro k hk ih
    refine GE_seq ?_
    refine GE_plain (.st 0 .nil) rfl ?_
    refine GT_st rfl rfl rfl rfl (V_lss rfl rfl rfl) ?_
    refine GT_nil ?_
    refine GE_seq ?_
    first | refine GE_condNot rfl (fun q1 => ?_) (fun q1 => ?_) | refine GE_cond rfl (fun q1 => ?_) (fun q1 => ?_) | refine GE_condNotB rfl (fun q1 => ?_) (fun q1 => ?_) | refine GE_condB rfl (fun q1 => ?_) (fun q1 => ?_)
    · obtain rfl : k = 0 := (by omega)
      refine GE_skip ?_
      refine GE_seq ?_
      refine GE_block ?_
      refine GE_seq ?_
      refine GE_plain (.st 0 (.st 1 (.st 2 (.st 3 (.st 4 .nil))))) rfl ?_
      refine GT_st rfl rfl rfl rfl (V_move rfl rfl) ?_
      refine GT_st rfl rfl rfl rfl (V_index rfl rfl rfl Tryz.underlying37 sz_3 (k := 0) rfl Nat.zero_lt_one (ho.isSome (k := 0) z0)) ?_
      refine GT_st rfl rfl rfl rfl (V_load rfl rfl ag_3 (ho.at0 (k := 0) noM z0 rfl)) ?_
      refine GT_st rfl rfl rfl rfl (V_assign rfl rfl) ?_
      refine GT_st rfl rfl rfl rfl (V_assign rfl rfl) ?_
      refine GT_nil ?_
      refine GE_block ?_
      refine GE_seq ?_
      refine GE_slots (L' := [(1, _), (2, _), (9, _), (11, _), (12, _), (22, _), (23, _), (24, _)]) ⟨rfl, rfl, rfl, rfl, rfl, rfl, rfl, rfl, trivial⟩ ?_
      refine GE_plain (.st 0 (.st 1 (.st 2 (.st 3 (.st 4 (.st 5 (.st 6 (.st 7 (.st 8 .nil))))))))) rfl ?_
      refine GT_st rfl rfl rfl rfl (V_move rfl rfl) ?_
      refine GT_st rfl rfl rfl rfl (V_isF (V_lss rfl rfl rfl) (by decide)) ?_
      refine GT_st rfl rfl rfl rfl (V_move rfl rfl) ?_
      refine GT_st_g rfl rfl rfl rfl rfl rfl rfl (V_move rfl rfl) ?_
      refine GT_st_g rfl rfl rfl rfl rfl rfl rfl (V_move rfl rfl) ?_
      refine GT_st_g rfl rfl rfl rfl rfl rfl rfl (V_len rfl Tryz.underlying36 rfl) ?_
      refine GT_st_g rfl rfl rfl rfl rfl rfl rfl (V_isF (V_geq rfl rfl rfl) (by decide)) ?_
      refine GT_st rfl rfl rfl rfl (V_pick_f rfl rfl rfl) ?_
      refine GT_st rfl rfl rfl rfl (V_assign rfl rfl) ?_
      refine GT_nil ?_
      refine GE_cond_f rfl ?_
      refine GE_seq ?_
      refine GE_slots (L' := [(1, _), (2, _), (9, _), (11, _), (12, _), (22, _), (23, _), (24, _), (33, _), (34, _), (35, _), (36, _)]) ⟨rfl, rfl, rfl, rfl, rfl, rfl, rfl, rfl, rfl, rfl, rfl, rfl, trivial⟩ ?_
      refine GE_plain (.st 0 (.st 1 (.st 2 (.st 3 (.ld 4 [] (.st 5 .nil)))))) rfl ?_
      refine GT_st rfl rfl rfl rfl (V_move rfl rfl) ?_
      refine GT_st rfl rfl rfl rfl (V_move rfl rfl) ?_
      refine GT_st rfl rfl rfl rfl (V_sliceTo rfl rfl rfl Tryz.underlying37 (by rw [sz_3]; rfl) (by omega)) ?_
      refine GT_st rfl rfl rfl rfl (V_move rfl rfl) ?_
      refine GT_call0 rfl rfl rfl rfl rfl rfl rfl rfl rn_14 (fun w hw => C_Contains0) (GR_nil) ?_
      refine GT_st rfl rfl rfl rfl (V_assign rfl rfl) ?_
      refine GT_nil ?_
      refine GE_cond_f rfl ?_
      refine GE_skip ?_
      refine GE_inBlock ?_
      refine GE_inBlock ?_
      refine GE_slots (L' := [(1, _), (2, _), (9, _), (22, _), (23, _), (24, _), (33, _), (34, _), (35, _), (36, _)]) ⟨rfl, rfl, rfl, rfl, rfl, rfl, rfl, rfl, rfl, rfl, trivial⟩ ?_
      refine GE_plain (.st 0 (.ld 1 [] .nil)) rfl ?_
      refine GT_st rfl rfl rfl rfl (V_add rfl rfl rfl (wrap_i64 (by omega))) ?_
      refine GT_ldv rfl rfl rfl rfl rfl (V_move rfl rfl) (GR_nil) ?_
      refine GT_nil ?_
      exact GE_to (ih 1 (Nat.le_refl _) (by decide)) ⟨rfl, rfl, rfl, rfl, rfl, rfl, trivial⟩ (HS.cons rfl HS.nil)
    · obtain rfl : k = 1 := (by omega)
      refine GE_exit rfl ?_
      refine GE_seq ?_
      refine GE_slots (L' := [(2, _), (9, _)]) ⟨rfl, rfl, trivial⟩ ?_
      refine GE_plain (.st 0 (.st 1 (.ld 2 [] (.st 3 (.st 4 (.st 5 (.st 6 (.st 7 (.st 8 .nil))))))))) rfl ?_
      refine GT_st rfl rfl rfl rfl (V_move rfl rfl) ?_
      refine GT_st rfl rfl rfl rfl (V_move rfl rfl) ?_
      refine GT_call rfl rfl rfl rfl rfl rfl rfl rfl rn_15 (fun w hw => C_lay (c2 := c2) hf ht (BlkAt.of hw) (h.sh hw) (ho.sh hw)) (fun _ _ => GR_nil) (fun y hy => ?_)
      refine GT_st rfl rfl rfl rfl (V_extract rfl rfl rfl) ?_
      refine GT_st rfl rfl rfl rfl (V_extract rfl rfl rfl) ?_
      refine GT_st rfl rfl rfl rfl (V_extract rfl rfl rfl) ?_
      refine GT_st rfl rfl rfl rfl (V_assign rfl rfl) ?_
      refine GT_st rfl rfl rfl rfl (V_assign rfl rfl) ?_
      refine GT_st rfl rfl rfl rfl (V_assign rfl rfl) ?_
      refine GT_nil ?_
      refine GE_ret Tryz.func6 ⟨_, _, _, rfl, rfl, rfl, rfl⟩ (fun w hw => ?_)
      exact ⟨y, hy, rfl, hw.hs (C := cx Tryz.prog hm 0 0 _ none' fun _ _ => True) HS.last⟩
  · exact Nat.zero_le _
theorem C_Width {f : Fmt} {t : Trk} (hf : f.Ok) (ht : t.Ok) : Con0 Tryz.prog 8 [f.val, .agg #[I t.long, I t.pitch, I t.least]] w (.tuple #[I (wid f t), I 0]) := by
  refine Ret_of (vs := [_, _]) hm none' Tryz.func8 rfl Tryz.ntmps8 rfl ?_
  dsimp only [slotsOf]
  refine GE_seq ?_
  refine GE_plain (.ld 0 [] (.ld 1 [] (.st 2 (.st 3 .nil)))) rfl ?_
  refine GT_box (z := [_, _, _, _, _, _, _, _]) rfl rfl rfl rfl rfl rfl rfl (fun _ => GR_nil) (fun b2 => ?_)
  refine GT_box (z := [_, _, _]) rfl rfl rfl rfl rfl rfl rfl (fun _ => GR_nil) (fun b3 => ?_)
  refine GT_st rfl rfl rfl rfl (V_assign rfl rfl) ?_
  refine GT_st rfl rfl rfl rfl (V_assign rfl rfl) ?_
  refine GT_nil ?_
  refine GE_seq ?_
  refine GE_slots (L' := [(2, _), (3, _)]) ⟨rfl, rfl, trivial⟩ ?_
  refine GE_plain (.st 0 (.st 1 (.ld 2 [] (.ld 3 [] (.st 4 (.st 5 (.st 6 (.st 7 (.st 8 .nil))))))))) rfl ?_
  refine GT_st rfl rfl rfl rfl (V_loadN (vs := [_, _, _, _, _, _, _, _]) rfl rfl ag_24 sz_24 rfl (CellsAt.item rfl)) ?_
  refine GT_st rfl rfl rfl rfl (V_loadN (vs := [_, _, _]) rfl rfl ag_26 sz_26 rfl (CellsAt.item rfl)) ?_
  refine GT_buildSlice (z := [_, _, _]) rfl rfl rfl rfl rfl Tryz.underlying36 zc_26 sz_26 (by decide) rfl rfl (fun _ => GR_nil) (fun b11 => ?_)
  refine GT_call rfl rfl rfl rfl rfl rfl rfl rfl rn_13 (fun w hw => C_open (l := [t]) hf (RdL.own' hw (fun x => rfl)) (show 1 ≤ 24 by decide) (fun x hx => by rw [List.mem_singleton] at hx; subst hx; exact ht)) (fun _ _ => GR_nil) (fun b _ => ?_)
  refine GT_st rfl rfl rfl rfl (V_move rfl rfl) ?_
  refine GT_st rfl rfl rfl rfl (V_extract rfl rfl rfl) ?_
  refine GT_st rfl rfl rfl rfl (V_extract rfl rfl rfl) ?_
  refine GT_st rfl rfl rfl rfl (V_assign rfl rfl) ?_
  refine GT_st rfl rfl rfl rfl (V_assign rfl rfl) ?_
  refine GT_nil ?_
  refine GE_seq ?_
  refine GE_seq ?_
  refine GE_slots (L' := [(3, _), (6, _), (7, _)]) ⟨rfl, rfl, rfl, trivial⟩ ?_
  refine GE_plain (.st 0 (.st 1 .nil)) rfl ?_
  refine GT_st rfl rfl rfl rfl (V_move rfl rfl) ?_
  refine GT_st rfl rfl rfl rfl (V_isF (V_neq rfl rfl rfl) (fun q => q rfl)) ?_
  refine GT_nil ?_
  refine GE_cond_f rfl ?_
  refine GE_skip ?_
  refine GE_seq ?_
  refine GE_plain (.st 0 (.st 1 (.ld 2 [] (.st 3 (.st 4 .nil))))) rfl ?_
  refine GT_st rfl rfl rfl rfl (V_move rfl rfl) ?_
  refine GT_st rfl rfl rfl rfl (V_loadN (vs := [_, _, _]) rfl rfl ag_26 sz_26 rfl (CellsAt.item rfl)) ?_
  refine GT_call0 rfl rfl rfl rfl rfl rfl rfl rfl rn_18 (fun w hw => C_width (t := t) hf ht (BlkAt.of hw)) (GR_nil) ?_
  refine GT_st rfl rfl rfl rfl (V_assign rfl rfl) ?_
  refine GT_st rfl rfl rfl rfl (V_assign rfl rfl) ?_
  refine GT_nil ?_
  refine GE_ret Tryz.func8 ⟨_, _, rfl, rfl, rfl⟩ (fun w hw => ⟨?_, hw.nil⟩)
  rfl
end
end Go.Proofs.YtogljfjbilndnaaGreatDoor.Side
/- One track alone: the usual order, a crowd, walked. -/
namespace Go.Proofs.YtogljfjbilndnaaGreatDoor.Side
open Go.Sx Go.Proofs Go.RowKit

theorem opv_eq {C : Cx} {L : Slots} {H : Items} {o : Oper} {v v' : Value} (h : OpV C L H o v) (e : v = v') : OpV C L H o v' := e ▸ h
section
variable {w : World} {A A2 : Option Addr} {c c2 : Nat} {f : Fmt} {t : Trk} {g : Nat}
theorem C_Len64_1 : Con0 Tryz.prog 71 [.int .u64 1] w (I 1) := by
  refine Ret_of (vs := [_]) hm none' Tryz.func71 rfl Tryz.ntmps71 rfl ?_
  dsimp only [slotsOf]
  refine GE_seq ?_
  refine GE_plain (.st 0 .nil) rfl ?_
  refine GT_st rfl rfl rfl rfl (V_assign rfl rfl) ?_
  refine GT_nil ?_
  refine GE_seq ?_
  refine GE_seq ?_
  refine GE_plain (.st 0 (.st 1 .nil)) rfl ?_
  refine GT_st rfl rfl rfl rfl (V_move rfl rfl) ?_
  refine GT_st rfl rfl rfl rfl (V_isF (V_geq rfl rfl rfl) (by decide)) ?_
  refine GT_nil ?_
  refine GE_cond_f rfl ?_
  refine GE_skip ?_
  refine GE_seq ?_
  refine GE_seq ?_
  refine GE_plain (.st 0 (.st 1 .nil)) rfl ?_
  refine GT_st rfl rfl rfl rfl (V_move rfl rfl) ?_
  refine GT_st rfl rfl rfl rfl (V_isF (V_geq rfl rfl rfl) (by decide)) ?_
  refine GT_nil ?_
  refine GE_cond_f rfl ?_
  refine GE_skip ?_
  refine GE_seq ?_
  refine GE_seq ?_
  refine GE_slots (L' := [(0, _), (2, _)]) ⟨rfl, rfl, trivial⟩ ?_
  refine GE_plain (.st 0 (.st 1 .nil)) rfl ?_
  refine GT_st rfl rfl rfl rfl (V_move rfl rfl) ?_
  refine GT_st rfl rfl rfl rfl (V_isF (V_geq rfl rfl rfl) (by decide)) ?_
  refine GT_nil ?_
  refine GE_cond_f rfl ?_
  refine GE_skip ?_
  refine GE_seq ?_
  refine GE_plain (.st 0 (.st 1 (.st 2 (.st 3 (.st 4 (.st 5 (.ld 6 [] .nil))))))) rfl ?_
  refine GT_st rfl rfl rfl rfl (V_move rfl rfl) ?_
  refine GT_st rfl rfl rfl rfl (V_move rfl rfl) ?_
  refine GT_st rfl rfl rfl rfl (V_convII rfl rfl (by rw [Tryz.underlying157]; rfl) Tryz.underlying5 (wrap_u8 (by omega))) ?_
  refine GT_st rfl rfl rfl rfl (opv_eq (v' := .int .u8 1) (V_indexStr (k := 1) rfl rfl rfl Tryz.underlying9 rfl (by decide +kernel)) (by kernel_rfl)) ?_
  refine GT_st rfl rfl rfl rfl (V_convII rfl rfl (by rw [Tryz.underlying5]; rfl) Tryz.underlying3 (wrap_i64 (by omega))) ?_
  refine GT_st rfl rfl rfl rfl (V_add rfl rfl rfl (wrap_i64 (by omega))) ?_
  refine GT_ldv rfl rfl rfl rfl rfl (V_assign rfl rfl) (GR_nil) ?_
  refine GT_nil ?_
  refine GE_ret Tryz.func71 rfl (fun w hw => ⟨?_, hw.nil⟩)
  rfl
theorem C_Len_1 : Con0 Tryz.prog 39 [.int .u64 1] w (I 1) := by
  refine Ret_of (vs := [_]) hm none' Tryz.func39 rfl Tryz.ntmps39 rfl ?_
  dsimp only [slotsOf]
  refine GE_seq ?_
  refine GE_plain (.st 0 .nil) rfl ?_
  refine GT_st rfl rfl rfl rfl (V_assign rfl rfl) ?_
  refine GT_nil ?_
  refine GE_seq ?_
  refine GE_cond_f rfl ?_
  refine GE_skip ?_
  refine GE_seq ?_
  refine GE_plain (.st 0 (.ld 1 [] (.st 2 .nil))) rfl ?_
  refine GT_st rfl rfl rfl rfl (V_move rfl rfl) ?_
  refine GT_call0 rfl rfl rfl rfl rfl rfl rfl rfl rn_71 (fun w hw => C_Len64_1) (GR_nil) ?_
  refine GT_st rfl rfl rfl rfl (V_assign rfl rfl) ?_
  refine GT_nil ?_
  refine GE_ret Tryz.func39 rfl (fun w hw => ⟨?_, hw.nil⟩)
  rfl
theorem C_insC_1 {v : Value} : Con0 Tryz.prog 116 [.slice A 1 c, I 0, I 1, v] w (.tuple #[]) := by
  refine Ret_of (vs := [_, _, _, _]) hm none' Tryz.func116 rfl Tryz.ntmps116 rfl ?_
  dsimp only [slotsOf]
  refine GE_seq ?_
  refine GE_plain (.st 0 (.st 1 (.st 2 .nil))) rfl ?_
  refine GT_st rfl rfl rfl rfl (V_move rfl rfl) ?_
  refine GT_st rfl rfl rfl rfl (V_add rfl rfl rfl (wrap_i64 (by omega))) ?_
  refine GT_st rfl rfl rfl rfl (V_assign rfl rfl) ?_
  refine GT_nil ?_
  refine GE_block ?_
  refine GE_to (GE_loop (ι := Unit) (fun _z => 0) (fun _z => [(0, .slice A 1 c), (1, I 0), (2, I 1), (3, v), (8, I 1)]) (fun _z => []) (fun _z => True) ?_ () ?_) ⟨rfl, rfl, rfl, rfl, rfl, trivial⟩ HS.nil
  · rintro _ _ ih
    refine GE_seq ?_
    refine GE_seq ?_
    refine GE_plain (.st 0 (.st 1 (.st 2 .nil))) rfl ?_
    refine GT_st rfl rfl rfl rfl (V_move rfl rfl) ?_
    refine GT_st rfl rfl rfl rfl (V_move rfl rfl) ?_
    refine GT_st rfl rfl rfl rfl (V_isF (V_lss rfl rfl rfl) (by decide)) ?_
    refine GT_nil ?_
    refine GE_cond_f rfl ?_
    refine GE_exit rfl ?_
    refine GE_end Tryz.func116 rfl (fun w hw => ⟨?_, hw.nil⟩)
    rfl
  · exact trivial
theorem C_pdqC_1 {v : Value} : Con0 Tryz.prog 88 [.slice A 1 c, I 0, I 1, I 1, v] w (.tuple #[]) := by
  refine Ret_of (vs := [_, _, _, _, _]) hm none' Tryz.func88 rfl Tryz.ntmps88 rfl ?_
  dsimp only [slotsOf]
  refine GE_seq ?_
  refine GE_plain (.st 0 .nil) rfl ?_
  refine GT_st rfl rfl rfl rfl (V_assign rfl rfl) ?_
  refine GT_nil ?_
  refine GE_seq ?_
  refine GE_plain (.st 0 .nil) rfl ?_
  refine GT_st rfl rfl rfl rfl (V_assign rfl rfl) ?_
  refine GT_nil ?_
  refine GE_block ?_
  refine GE_to (GE_loop (ι := Unit) (fun _z => 0) (fun _z => [(0, .slice A 1 c), (1, I 0), (2, I 1), (3, I 1), (4, v), (10, .bool true), (11, .bool true)]) (fun _z => []) (fun _z => True) ?_ () ?_) ⟨rfl, rfl, rfl, rfl, rfl, rfl, rfl, trivial⟩ HS.nil
  · rintro _ _ ih
    refine GE_block ?_
    refine GE_seq ?_
    refine GE_plain (.st 0 (.st 1 (.st 2 (.st 3 .nil)))) rfl ?_
    refine GT_st rfl rfl rfl rfl (V_move rfl rfl) ?_
    refine GT_st rfl rfl rfl rfl (V_move rfl rfl) ?_
    refine GT_st rfl rfl rfl rfl (V_sub rfl rfl rfl (wrap_i64 (by omega))) ?_
    refine GT_st rfl rfl rfl rfl (V_assign rfl rfl) ?_
    refine GT_nil ?_
    refine GE_seq ?_
    refine GE_seq ?_
    refine GE_plain (.st 0 (.st 1 .nil)) rfl ?_
    refine GT_st rfl rfl rfl rfl (V_move rfl rfl) ?_
    refine GT_st rfl rfl rfl rfl (V_isT (V_leq rfl rfl rfl) (by decide)) ?_
    refine GT_nil ?_
    refine GE_cond_t rfl ?_
    refine GE_seq ?_
    refine GE_slots (L' := [(0, _), (1, _), (2, _), (4, _)]) ⟨rfl, rfl, rfl, rfl, trivial⟩ ?_
    refine GE_plain (.st 0 (.st 1 (.st 2 (.st 3 (.ld 4 [] .nil))))) rfl ?_
    refine GT_st rfl rfl rfl rfl (V_move rfl rfl) ?_
    refine GT_st rfl rfl rfl rfl (V_move rfl rfl) ?_
    refine GT_st rfl rfl rfl rfl (V_move rfl rfl) ?_
    refine GT_st rfl rfl rfl rfl (V_move rfl rfl) ?_
    refine GT_call0 rfl rfl rfl rfl rfl rfl rfl rfl rn_116 (fun w hw => C_insC_1) (GR_nil) ?_
    refine GT_nil ?_
    refine GE_ret Tryz.func88 rfl (fun w hw => ⟨?_, hw.nil⟩)
    rfl
  · exact trivial
theorem C_SortFunc_1 {v : Value} : Con0 Tryz.prog 59 [.slice A 1 c, v] w (.tuple #[]) := by
  refine Ret_of (vs := [_, _]) hm none' Tryz.func59 rfl Tryz.ntmps59 rfl ?_
  dsimp only [slotsOf]
  refine GE_seq ?_
  refine GE_plain (.st 0 (.st 1 (.st 2 .nil))) rfl ?_
  refine GT_st rfl rfl rfl rfl (V_move rfl rfl) ?_
  refine GT_st rfl rfl rfl rfl (V_len rfl Tryz.underlying37 rfl) ?_
  refine GT_st rfl rfl rfl rfl (V_assign rfl rfl) ?_
  refine GT_nil ?_
  refine GE_plain (.st 0 (.st 1 (.st 2 (.st 3 (.ld 4 [] (.st 5 (.ld 6 [] .nil))))))) rfl ?_
  refine GT_st rfl rfl rfl rfl (V_move rfl rfl) ?_
  refine GT_st rfl rfl rfl rfl (V_move rfl rfl) ?_
  refine GT_st rfl rfl rfl rfl (V_move rfl rfl) ?_
  refine GT_st rfl rfl rfl rfl (V_convII rfl rfl (by rw [Tryz.underlying3]; rfl) Tryz.underlying113 (wrap_u64 (by omega))) ?_
  refine GT_call0 rfl rfl rfl rfl rfl rfl rfl rfl rn_39 (fun w hw => C_Len_1) (GR_nil) ?_
  refine GT_st rfl rfl rfl rfl (V_move rfl rfl) ?_
  refine GT_call0 rfl rfl rfl rfl rfl rfl rfl rfl rn_88 (fun w hw => C_pdqC_1) (GR_nil) ?_
  refine GT_nil ?_
  refine GE_end Tryz.func59 rfl (fun w hw => ⟨?_, hw.nil⟩)
  rfl
theorem C_insO_1 : Con0 Tryz.prog 61 [.slice A 1 c, I 0, I 1] w (.tuple #[]) := by
  refine Ret_of (vs := [_, _, _]) hm none' Tryz.func61 rfl Tryz.ntmps61 rfl ?_
  dsimp only [slotsOf]
  refine GE_seq ?_
  refine GE_plain (.st 0 (.st 1 (.st 2 .nil))) rfl ?_
  refine GT_st rfl rfl rfl rfl (V_move rfl rfl) ?_
  refine GT_st rfl rfl rfl rfl (V_add rfl rfl rfl (wrap_i64 (by omega))) ?_
  refine GT_st rfl rfl rfl rfl (V_assign rfl rfl) ?_
  refine GT_nil ?_
  refine GE_block ?_
  refine GE_to (GE_loop (ι := Unit) (fun _z => 0) (fun _z => [(0, .slice A 1 c), (1, I 0), (2, I 1), (6, I 1)]) (fun _z => []) (fun _z => True) ?_ () ?_) ⟨rfl, rfl, rfl, rfl, trivial⟩ HS.nil
  · rintro _ _ ih
    refine GE_seq ?_
    refine GE_seq ?_
    refine GE_plain (.st 0 (.st 1 (.st 2 .nil))) rfl ?_
    refine GT_st rfl rfl rfl rfl (V_move rfl rfl) ?_
    refine GT_st rfl rfl rfl rfl (V_move rfl rfl) ?_
    refine GT_st rfl rfl rfl rfl (V_isF (V_lss rfl rfl rfl) (by decide)) ?_
    refine GT_nil ?_
    refine GE_cond_f rfl ?_
    refine GE_exit rfl ?_
    refine GE_end Tryz.func61 rfl (fun w hw => ⟨?_, hw.nil⟩)
    rfl
  · exact trivial
theorem C_pdqO_1 : Con0 Tryz.prog 38 [.slice A 1 c, I 0, I 1, I 1] w (.tuple #[]) := by
  refine Ret_of (vs := [_, _, _, _]) hm none' Tryz.func38 rfl Tryz.ntmps38 rfl ?_
  dsimp only [slotsOf]
  refine GE_seq ?_
  refine GE_plain (.st 0 .nil) rfl ?_
  refine GT_st rfl rfl rfl rfl (V_assign rfl rfl) ?_
  refine GT_nil ?_
  refine GE_seq ?_
  refine GE_plain (.st 0 .nil) rfl ?_
  refine GT_st rfl rfl rfl rfl (V_assign rfl rfl) ?_
  refine GT_nil ?_
  refine GE_block ?_
  refine GE_to (GE_loop (ι := Unit) (fun _z => 0) (fun _z => [(0, .slice A 1 c), (1, I 0), (2, I 1), (3, I 1), (8, .bool true), (9, .bool true)]) (fun _z => []) (fun _z => True) ?_ () ?_) ⟨rfl, rfl, rfl, rfl, rfl, rfl, trivial⟩ HS.nil
  · rintro _ _ ih
    refine GE_block ?_
    refine GE_seq ?_
    refine GE_plain (.st 0 (.st 1 (.st 2 (.st 3 .nil)))) rfl ?_
    refine GT_st rfl rfl rfl rfl (V_move rfl rfl) ?_
    refine GT_st rfl rfl rfl rfl (V_move rfl rfl) ?_
    refine GT_st rfl rfl rfl rfl (V_sub rfl rfl rfl (wrap_i64 (by omega))) ?_
    refine GT_st rfl rfl rfl rfl (V_assign rfl rfl) ?_
    refine GT_nil ?_
    refine GE_seq ?_
    refine GE_seq ?_
    refine GE_plain (.st 0 (.st 1 .nil)) rfl ?_
    refine GT_st rfl rfl rfl rfl (V_move rfl rfl) ?_
    refine GT_st rfl rfl rfl rfl (V_isT (V_leq rfl rfl rfl) (by decide)) ?_
    refine GT_nil ?_
    refine GE_cond_t rfl ?_
    refine GE_seq ?_
    refine GE_slots (L' := [(0, _), (1, _), (2, _)]) ⟨rfl, rfl, rfl, trivial⟩ ?_
    refine GE_plain (.st 0 (.st 1 (.st 2 (.ld 3 [] .nil)))) rfl ?_
    refine GT_st rfl rfl rfl rfl (V_move rfl rfl) ?_
    refine GT_st rfl rfl rfl rfl (V_move rfl rfl) ?_
    refine GT_st rfl rfl rfl rfl (V_move rfl rfl) ?_
    refine GT_call0 rfl rfl rfl rfl rfl rfl rfl rfl rn_61 (fun w hw => C_insO_1) (GR_nil) ?_
    refine GT_nil ?_
    refine GE_ret Tryz.func38 rfl (fun w hw => ⟨?_, hw.nil⟩)
    rfl
  · exact trivial
theorem C_Sort_1 : Con0 Tryz.prog 22 [.slice A 1 c] w (.tuple #[]) := by
  refine Ret_of (vs := [_]) hm none' Tryz.func22 rfl Tryz.ntmps22 rfl ?_
  dsimp only [slotsOf]
  refine GE_seq ?_
  refine GE_plain (.st 0 (.st 1 (.st 2 .nil))) rfl ?_
  refine GT_st rfl rfl rfl rfl (V_move rfl rfl) ?_
  refine GT_st rfl rfl rfl rfl (V_len rfl Tryz.underlying37 rfl) ?_
  refine GT_st rfl rfl rfl rfl (V_assign rfl rfl) ?_
  refine GT_nil ?_
  refine GE_plain (.st 0 (.st 1 (.st 2 (.st 3 (.ld 4 [] (.ld 5 [] .nil)))))) rfl ?_
  refine GT_st rfl rfl rfl rfl (V_move rfl rfl) ?_
  refine GT_st rfl rfl rfl rfl (V_move rfl rfl) ?_
  refine GT_st rfl rfl rfl rfl (V_move rfl rfl) ?_
  refine GT_st rfl rfl rfl rfl (V_convII rfl rfl (by rw [Tryz.underlying3]; rfl) Tryz.underlying113 (wrap_u64 (by omega))) ?_
  refine GT_call0 rfl rfl rfl rfl rfl rfl rfl rfl rn_39 (fun w hw => C_Len_1) (GR_nil) ?_
  refine GT_call0 rfl rfl rfl rfl rfl rfl rfl rfl rn_38 (fun w hw => C_pdqO_1) (GR_nil) ?_
  refine GT_nil ?_
  refine GE_end Tryz.func22 rfl (fun w hw => ⟨?_, hw.nil⟩)
  rfl
theorem C_span_1 : Con Tryz.prog 37 [I 0, I 1] w (fun y : Option Addr × Nat × Items => Own 1 3 eN [0] (.slice y.1 1 y.2.1) y.2.2) (fun y => .slice y.1 1 y.2.1) (fun y => y.2.2) := by
  refine Ret_of (vs := [_, _]) hm none' Tryz.func37 rfl Tryz.ntmps37 rfl ?_
  dsimp only [slotsOf]
  refine GE_seq ?_
  refine GE_plain (.st 0 .nil) rfl ?_
  refine GT_st rfl rfl rfl rfl (V_assign rfl rfl) ?_
  refine GT_nil ?_
  refine GE_seq ?_
  refine GE_plain (.st 0 .nil) rfl ?_
  refine GT_st rfl rfl rfl rfl (V_assign rfl rfl) ?_
  refine GT_nil ?_
  refine GE_seq ?_
  refine GE_block ?_
  refine GE_to (GE_loop (ι := Nat × (Option Addr × Nat × Items)) (fun z => 1 - z.1) (fun z => [(0, I z.1), (1, I 1), (5, .slice z.2.1 z.1 z.2.2.1)]) (fun z => z.2.2.2) (fun z => z.1 ≤ 1 ∧ Own 1 3 eN (if z.1 = 0 then [] else [0]) (.slice z.2.1 z.1 z.2.2.1) z.2.2.2) ?_ (0, (none, 0, [])) ?_) ⟨rfl, rfl, rfl, trivial⟩ HS.nil
  · rintro ⟨k, y⟩ ⟨hk, hO⟩ ih; dsimp only at hk hO ih ⊢
    refine GE_seq ?_
    refine GE_seq ?_
    refine GE_plain (.st 0 (.st 1 (.st 2 .nil))) rfl ?_
    refine GT_st rfl rfl rfl rfl (V_move rfl rfl) ?_
    refine GT_st rfl rfl rfl rfl (V_move rfl rfl) ?_
    refine GT_st rfl rfl rfl rfl (V_lss rfl rfl rfl) ?_
    refine GT_nil ?_
    first | refine GE_condNot rfl (fun q1 => ?_) (fun q1 => ?_) | refine GE_cond rfl (fun q1 => ?_) (fun q1 => ?_) | refine GE_condNotB rfl (fun q1 => ?_) (fun q1 => ?_) | refine GE_condB rfl (fun q1 => ?_) (fun q1 => ?_)
    · obtain rfl : k = 0 := (by omega)
      refine GE_skip ?_
      refine GE_seq ?_
      refine GE_block ?_
      refine GE_plain (.st 0 (.st 1 (.ld 2 [] (.ld 3 [] (.ld 4 [] .nil))))) rfl ?_
      refine GT_st rfl rfl rfl rfl (V_move rfl rfl) ?_
      refine GT_st rfl rfl rfl rfl (V_move rfl rfl) ?_
      refine GT_buildSlice (z := [_]) rfl rfl rfl rfl rfl Tryz.underlying37 zc_3 sz_3 (by decide) rfl rfl (fun _ => GR_nil) (fun b13 => ?_)
      refine GT_append (enc := eN) (l := []) (m := [0]) rfl rfl rfl rfl rfl rfl rfl hO (fun w m => RdL.own' m eN_len) Tryz.underlying37 zc_3 sz_3 ⟨rfl, by decide⟩ by_3 ⟨by decide, by decide⟩ eN_len eN_one (fun _ _ _ _ => GR_nil) (fun A3 c3 I3 hO3 => ?_)
      refine GT_ldv rfl rfl rfl rfl rfl (V_assign rfl rfl) (GR_nil) ?_
      refine GT_nil ?_
      refine GE_inBlock ?_
      refine GE_slots (L' := [(0, _), (1, _), (5, _)]) ⟨rfl, rfl, rfl, trivial⟩ ?_
      refine GE_plain (.st 0 (.st 1 (.ld 2 [] .nil))) rfl ?_
      refine GT_st rfl rfl rfl rfl (V_move rfl rfl) ?_
      refine GT_st rfl rfl rfl rfl (V_add rfl rfl rfl (wrap_i64 (by omega))) ?_
      refine GT_ldv rfl rfl rfl rfl rfl (V_assign rfl rfl) (GR_nil) ?_
      refine GT_nil ?_
      exact GE_to (ih (1, (A3, c3, I3)) ⟨Nat.le_refl _, hO3⟩ (show 1 - 1 < 1 - 0 by decide)) ⟨rfl, rfl, rfl, trivial⟩ HS.last
    · obtain rfl : k = 1 := (by omega)
      refine GE_exit rfl ?_
      refine GE_seq ?_
      refine GE_slots (L' := [(5, _)]) ⟨rfl, trivial⟩ ?_
      refine GE_plain (.st 0 (.st 1 .nil)) rfl ?_
      refine GT_st rfl rfl rfl rfl (V_move rfl rfl) ?_
      refine GT_st rfl rfl rfl rfl (V_assign rfl rfl) ?_
      refine GT_nil ?_
      refine GE_ret Tryz.func37 rfl (fun w hw => ?_)
      exact ⟨y, hO, rfl, hw.hs (C := cx Tryz.prog hm 0 0 _ none' fun _ _ => True) HS.last⟩
  · exact ⟨Nat.zero_le _, Own.nil⟩
theorem C_CloneI_1 (h : RdL w 1 eN A [0]) (hA : A.isSome = true) : Con Tryz.prog 58 [.slice A 1 c] w (fun y : Option Addr × Nat × Items => Own 1 3 eN [0] (.slice y.1 1 y.2.1) y.2.2) (fun y => .slice y.1 1 y.2.1) (fun y => y.2.2) := by
  obtain ⟨a, rfl⟩ := Option.isSome_iff_exists.1 hA
  refine Ret_of (vs := [_]) hm none' Tryz.func58 rfl Tryz.ntmps58 rfl ?_
  dsimp only [slotsOf]
  refine GE_seq ?_
  refine GE_plain (.st 0 .nil) rfl ?_
  refine GT_st rfl rfl rfl rfl (V_assign rfl rfl) ?_
  refine GT_nil ?_
  refine GE_seq ?_
  refine GE_seq ?_
  refine GE_plain (.st 0 (.st 1 .nil)) rfl ?_
  refine GT_st rfl rfl rfl rfl (V_move rfl rfl) ?_
  refine GT_st rfl rfl rfl rfl (V_eqlNilF rfl rfl rfl Tryz.underlying37) ?_
  refine GT_nil ?_
  refine GE_cond_f rfl ?_
  refine GE_skip ?_
  refine GE_seq ?_
  refine GE_plain (.ld 0 [] (.st 1 (.ld 2 [] (.st 3 .nil)))) rfl ?_
  refine GT_buildSlice (z := []) rfl rfl rfl rfl rfl Tryz.underlying37 zc_3 sz_3 (by decide) rfl rfl (fun _ => GR_nil) (fun b5 => ?_)
  have ho5 : Own 1 3 eN [] (.slice (some ⟨b5, 0, none⟩) 0 0) [(b5, blk [] 3)] := Own.lit rfl rfl (by decide)
  refine GT_st rfl rfl rfl rfl (V_move rfl rfl) ?_
  refine GT_append (enc := eN) (l := []) (m := [0]) rfl rfl rfl rfl rfl rfl rfl ho5 (fun w m => h.sh m) Tryz.underlying37 zc_3 sz_3 ⟨rfl, by decide⟩ by_3 ⟨by decide, by decide⟩ eN_len eN_one (fun _ _ _ _ => GR_nil) (fun A3 c3 I3 hO3 => ?_)
  refine GT_st rfl rfl rfl rfl (V_assign rfl rfl) ?_
  refine GT_nil ?_
  refine GE_ret Tryz.func58 rfl (fun w hw => ?_)
  exact ⟨(A3, c3, I3), hO3, rfl, hw.hs (C := cx Tryz.prog hm 0 0 _ none' fun _ _ => True) HS.last⟩
end
end Go.Proofs.YtogljfjbilndnaaGreatDoor.Side
/- One track alone is a crowd if its band is not possible, walked. -/
namespace Go.Proofs.YtogljfjbilndnaaGreatDoor.Side
open Go.Sx Go.Proofs Go.RowKit

theorem own_le {α : Type} {sz e : Nat} {enc : α → List Value} {l : List α} {A : Option Addr} {c : Nat} {I : Items} {n : Nat} (h : Own sz e enc l (.slice A n c) I) : n ≤ c := by
  rcases h with ⟨h1, h2, _⟩ | ⟨g, c', rest, h1, _, _, h4, _⟩
  · injection h1 with _ h1 _; rw [h1]; exact Nat.zero_le _
  · injection h1 with _ h0 h1; rw [h0, h1]; exact h4
section
variable {w : World} {A A2 : Option Addr} {c c2 : Nat} {f : Fmt} {t : Trk} {g : Nat}
theorem C_order_1 (h : RdL w 1 eN A2 [0]) (hA : A2.isSome = true) : Con Tryz.prog 36 [ptr g 0, .slice A2 1 c2] w (fun y : Option Addr × Nat × Items => Own 1 3 eN [0] (.slice y.1 1 y.2.1) y.2.2) (fun y => .slice y.1 1 y.2.1) (fun y => y.2.2) := by
  refine Ret_of (vs := [_, _]) hm none' Tryz.func36 rfl Tryz.ntmps36 rfl ?_
  dsimp only [slotsOf]
  refine GE_seq ?_
  refine GE_plain (.st 0 .nil) rfl ?_
  refine GT_st rfl rfl rfl rfl (V_assign rfl rfl) ?_
  refine GT_nil ?_
  refine GE_seq ?_
  refine GE_plain (.st 0 (.ld 1 [] (.ld 2 [] .nil))) rfl ?_
  refine GT_st rfl rfl rfl rfl (V_move rfl rfl) ?_
  refine GT_call rfl rfl rfl rfl rfl rfl rfl rfl rn_58 (fun w hw => C_CloneI_1 (h.sh hw) hA) (fun _ _ => GR_nil) (fun y hy => ?_)
  refine GT_ldv rfl rfl rfl rfl rfl (V_assign rfl rfl) (GR_nil) ?_
  refine GT_nil ?_
  refine GE_seq ?_
  refine GE_plain (.st 0 (.st 1 (.st 2 (.ld 3 [] .nil)))) rfl ?_
  refine GT_st rfl rfl rfl rfl (V_move rfl rfl) ?_
  refine GT_st rfl rfl rfl rfl (V_move rfl rfl) ?_
  refine GT_st rfl rfl rfl rfl (V_makeFunc rfl rfl rfl) ?_
  refine GT_call0 rfl rfl rfl rfl rfl rfl rfl rfl rn_59 (fun w hw => C_SortFunc_1) (GR_nil) ?_
  refine GT_nil ?_
  refine GE_seq ?_
  refine GE_slots (L' := [(1, _)]) ⟨rfl, trivial⟩ ?_
  refine GE_plain (.st 0 (.st 1 .nil)) rfl ?_
  refine GT_st rfl rfl rfl rfl (V_move rfl rfl) ?_
  refine GT_st rfl rfl rfl rfl (V_assign rfl rfl) ?_
  refine GT_nil ?_
  refine GE_ret Tryz.func36 rfl (fun w hw => ?_)
  exact ⟨y, hy, rfl, hw.hs (C := cx Tryz.prog hm 0 0 _ none' fun _ _ => True) HS.last⟩
theorem C_all_1 (hb : BlkAt w g (plC f A 1 c) 97) : Con Tryz.prog 19 [ptr g 0] w (fun y : Option Addr × Nat × Items => Own 1 3 eN [0] (.slice y.1 1 y.2.1) y.2.2) (fun y => .slice y.1 1 y.2.1) (fun y => y.2.2) := by
  refine Ret_of (vs := [_]) hm none' Tryz.func19 rfl Tryz.ntmps19 rfl ?_
  dsimp only [slotsOf]
  refine GE_seq ?_
  refine GE_plain (.st 0 .nil) rfl ?_
  refine GT_st rfl rfl rfl rfl (V_assign rfl rfl) ?_
  refine GT_nil ?_
  refine GE_seq ?_
  refine GE_plain (.st 0 (.st 1 (.st 2 (.st 3 (.st 4 (.st 5 (.ld 6 [] (.ld 7 [] (.st 8 .nil))))))))) rfl ?_
  refine GT_st rfl rfl rfl rfl (V_move rfl rfl) ?_
  refine GT_st rfl rfl rfl rfl (V_move rfl rfl) ?_
  first | refine GT_st rfl rfl rfl rfl (V_nilCheck rfl rfl) ?_ | refine GT_st rfl rfl rfl rfl (V_nilCheck_func rfl rfl) ?_ | refine GT_st rfl rfl rfl rfl (V_nilCheck_yield rfl rfl) ?_
  first | refine GT_st rfl rfl rfl rfl (V_field rfl rfl fo_97_1) ?_ | refine GT_st rfl rfl rfl rfl (V_fieldA rfl rfl fo_97_1) ?_
  first | refine GT_st rfl rfl rfl rfl (V_load rfl rfl ag_36 (CellAt.item rfl)) ?_ | refine GT_st rfl rfl rfl rfl (V_load rfl rfl ag_36 (CellAt.old (hb.cell rfl) (noM _))) ?_
  refine GT_st rfl rfl rfl rfl (V_len rfl Tryz.underlying36 rfl) ?_
  refine GT_call rfl rfl rfl rfl rfl rfl rfl rfl rn_37 (fun w hw => C_span_1) (fun _ _ => GR_nil) (fun x hx => ?_)
  refine GT_call rfl rfl rfl rfl rfl rfl rfl rfl rn_36 (fun w hw => C_order_1 (hx.rdH eN_len hw) (hx.isSome (k := 0) Nat.zero_lt_one)) (fun _ _ => GR_nil) (fun y hy => ?_)
  refine GT_st rfl rfl rfl rfl (V_assign rfl rfl) ?_
  refine GT_nil ?_
  refine GE_ret Tryz.func19 rfl (fun w hw => ?_)
  exact ⟨y, hy, rfl, hw.hs (C := cx Tryz.prog hm 0 0 _ none' fun _ _ => True) (HS.last (I := y.2.2))⟩
theorem C_possible_1 (hf : f.Ok) (ht : t.Ok) (hb : BlkAt w g (plC f A 1 c) 97) (h : RdL w 3 eTrk A [t]) (ho : RdL w 1 eN A2 [0]) : Con0 Tryz.prog 20 [ptr g 0, .slice A2 1 c2] w (.bool (decide (layE f t = 0))) := by
  refine Ret_of (vs := [_, _]) hm none' Tryz.func20 rfl Tryz.ntmps20 rfl ?_
  dsimp only [slotsOf]
  refine GE_seq ?_
  refine GE_plain (.st 0 .nil) rfl ?_
  refine GT_st rfl rfl rfl rfl (V_assign rfl rfl) ?_
  refine GT_nil ?_
  refine GE_seq ?_
  refine GE_plain (.st 0 (.st 1 (.ld 2 [] (.st 3 (.st 4 (.st 5 (.st 6 (.st 7 (.st 8 (.st 9 .nil)))))))))) rfl ?_
  refine GT_st rfl rfl rfl rfl (V_move rfl rfl) ?_
  refine GT_st rfl rfl rfl rfl (V_move rfl rfl) ?_
  refine GT_call rfl rfl rfl rfl rfl rfl rfl rfl rn_15 (fun w hw => C_lay (c2 := c2) hf ht (hb.sh hw) (h.sh hw) (ho.sh hw)) (fun _ _ => GR_nil) (fun y hy => ?_)
  refine GT_st rfl rfl rfl rfl (V_move rfl rfl) ?_
  refine GT_st rfl rfl rfl rfl (V_extract rfl rfl rfl) ?_
  refine GT_st rfl rfl rfl rfl (V_extract rfl rfl rfl) ?_
  refine GT_st rfl rfl rfl rfl (V_extract rfl rfl rfl) ?_
  refine GT_st rfl rfl rfl rfl (V_assign rfl rfl) ?_
  refine GT_st rfl rfl rfl rfl (V_assign rfl rfl) ?_
  refine GT_st rfl rfl rfl rfl (V_assign rfl rfl) ?_
  refine GT_nil ?_
  refine GE_seq ?_
  refine GE_slots (L' := [(7, _)]) ⟨rfl, trivial⟩ ?_
  refine GE_plain (.st 0 (.st 1 (.st 2 .nil))) rfl ?_
  refine GT_st rfl rfl rfl rfl (V_move rfl rfl) ?_
  refine GT_st rfl rfl rfl rfl (V_eql rfl rfl rfl) ?_
  refine GT_st rfl rfl rfl rfl (V_assign rfl rfl) ?_
  refine GT_nil ?_
  refine GE_ret Tryz.func20 rfl (fun w hw => ⟨?_, hw.nil⟩)
  rfl
set_option maxRecDepth 20000 in
theorem C_crowds_1 (hf : f.Ok) (ht : t.Ok) (hb : BlkAt w g (plC f A 1 c) 97) (h : RdL w 3 eTrk A [t]) (ho : RdL w 1 eN A2 [0]) (he : layE f t ≠ 0) : Con0 Tryz.prog 21 [ptr g 0, .slice A2 1 c2] w (.bool true) := by
  have h1 := hf.outer
  have h2 := hf.lead
  have h3 := hf.tail
  have h4 := hf.gap
  obtain ⟨_, _, h5⟩ := wid_bd hf ht
  have z1 : 0 < ([t] : List Trk).length := Nat.zero_lt_one
  have z0 : 0 < ([0] : List Int).length := Nat.zero_lt_one
  have hd : f.outer - f.lead - wid f t < t.least ∨ f.outer - f.lead - wid f t - f.tail < f.inner := by
    by_cases q1 : f.outer - f.lead - wid f t < t.least
    · exact .inl q1
    · by_cases q2 : f.outer - f.lead - wid f t - f.tail < f.inner
      · exact .inr q2
      · exact absurd (by rw [layE, if_neg q1, if_neg q2]) he
  refine Ret_of (vs := [_, _]) hm none' Tryz.func21 rfl Tryz.ntmps21 rfl ?_
  dsimp only [slotsOf]
  refine GE_seq ?_
  refine GE_plain (.st 0 .nil) rfl ?_
  refine GT_st rfl rfl rfl rfl (V_assign rfl rfl) ?_
  refine GT_nil ?_
  refine GE_seq ?_
  refine GE_drawn (.st 0 (.st 1 (.st 2 (.st 3 (.st 4 (.st 5 (.st 6 (.st 7 (.st 8 (.st 9 (.st 10 (.st 11 (.st 12 (.st 13 (.st 14 (.st 15 (.st 16 (.st 17 .nil)))))))))))))))))) [] (by decide +kernel) ?_
  refine GT_st rfl rfl rfl rfl (V_move rfl rfl) ?_
  first | refine GT_st rfl rfl rfl rfl (V_nilCheck rfl rfl) ?_ | refine GT_st rfl rfl rfl rfl (V_nilCheck_func rfl rfl) ?_ | refine GT_st rfl rfl rfl rfl (V_nilCheck_yield rfl rfl) ?_
  first | refine GT_st rfl rfl rfl rfl (V_field rfl rfl fo_97_0) ?_ | refine GT_st rfl rfl rfl rfl (V_fieldA rfl rfl fo_97_0) ?_
  first | refine GT_st rfl rfl rfl rfl (V_field rfl rfl fo_24_1) ?_ | refine GT_st rfl rfl rfl rfl (V_fieldA rfl rfl fo_24_1) ?_
  first | refine GT_st rfl rfl rfl rfl (V_load rfl rfl ag_2 (CellAt.item rfl)) ?_ | refine GT_st rfl rfl rfl rfl (V_load rfl rfl ag_2 (CellAt.old (hb.cell rfl) (noM _))) ?_
  refine GT_st rfl rfl rfl rfl (V_move rfl rfl) ?_
  first | refine GT_st rfl rfl rfl rfl (V_nilCheck rfl rfl) ?_ | refine GT_st rfl rfl rfl rfl (V_nilCheck_func rfl rfl) ?_ | refine GT_st rfl rfl rfl rfl (V_nilCheck_yield rfl rfl) ?_
  first | refine GT_st rfl rfl rfl rfl (V_field rfl rfl fo_97_0) ?_ | refine GT_st rfl rfl rfl rfl (V_fieldA rfl rfl fo_97_0) ?_
  first | refine GT_st rfl rfl rfl rfl (V_field rfl rfl fo_24_4) ?_ | refine GT_st rfl rfl rfl rfl (V_fieldA rfl rfl fo_24_4) ?_
  first | refine GT_st rfl rfl rfl rfl (V_load rfl rfl ag_2 (CellAt.item rfl)) ?_ | refine GT_st rfl rfl rfl rfl (V_load rfl rfl ag_2 (CellAt.old (hb.cell rfl) (noM _))) ?_
  refine GT_st rfl rfl rfl rfl (V_sub rfl rfl rfl (wrap_i64 (by omega))) ?_
  refine GT_st rfl rfl rfl rfl (V_move rfl rfl) ?_
  first | refine GT_st rfl rfl rfl rfl (V_nilCheck rfl rfl) ?_ | refine GT_st rfl rfl rfl rfl (V_nilCheck_func rfl rfl) ?_ | refine GT_st rfl rfl rfl rfl (V_nilCheck_yield rfl rfl) ?_
  first | refine GT_st rfl rfl rfl rfl (V_field rfl rfl fo_97_0) ?_ | refine GT_st rfl rfl rfl rfl (V_fieldA rfl rfl fo_97_0) ?_
  first | refine GT_st rfl rfl rfl rfl (V_field rfl rfl fo_24_5) ?_ | refine GT_st rfl rfl rfl rfl (V_fieldA rfl rfl fo_24_5) ?_
  first | refine GT_st rfl rfl rfl rfl (V_load rfl rfl ag_2 (CellAt.item rfl)) ?_ | refine GT_st rfl rfl rfl rfl (V_load rfl rfl ag_2 (CellAt.old (hb.cell rfl) (noM _))) ?_
  refine GT_st rfl rfl rfl rfl (V_add rfl rfl rfl (wrap_i64 (by omega))) ?_
  refine GT_st rfl rfl rfl rfl (V_assign rfl rfl) ?_
  refine GT_nil ?_
  refine GE_seq ?_
  refine GE_seq ?_
  refine GE_slots (L' := [(0, _), (1, _), (5, _)]) ⟨rfl, rfl, rfl, trivial⟩ ?_
  refine GE_plain (.st 0 (.st 1 (.st 2 .nil))) rfl ?_
  refine GT_st rfl rfl rfl rfl (V_move rfl rfl) ?_
  refine GT_st rfl rfl rfl rfl (V_len rfl Tryz.underlying37 rfl) ?_
  refine GT_st rfl rfl rfl rfl (V_move rfl rfl) ?_
  refine GT_nil ?_
  refine GE_block ?_
  refine GE_to (GE_loop (ι := Nat) (fun k => 1 - k) (fun k => [(0, ptr g 0), (1, .slice A2 1 c2), (5, I (if k = 0 then f.outer - f.lead + f.gap else f.outer - f.lead - wid f t)), (25, .slice A2 1 c2), (26, I 1), (27, I k)]) (fun k => []) (fun k => k ≤ 1) ?_ 0 ?_) ⟨rfl, rfl, rfl, rfl, rfl, rfl, trivial⟩ HS.nil
  · intro k hk ih
    refine GE_seq ?_
    refine GE_plain (.st 0 .nil) rfl ?_
    refine GT_st rfl rfl rfl rfl (V_lss rfl rfl rfl) ?_
    refine GT_nil ?_
    refine GE_seq ?_
    first | refine GE_condNot rfl (fun q1 => ?_) (fun q1 => ?_) | refine GE_cond rfl (fun q1 => ?_) (fun q1 => ?_) | refine GE_condNotB rfl (fun q1 => ?_) (fun q1 => ?_) | refine GE_condB rfl (fun q1 => ?_) (fun q1 => ?_)
    · obtain rfl : k = 0 := (by omega)
      refine GE_skip ?_
      refine GE_seq ?_
      refine GE_block ?_
      refine GE_seq ?_
      refine GE_plain (.st 0 (.st 1 (.st 2 .nil))) rfl ?_
      refine GT_st rfl rfl rfl rfl (V_index rfl rfl rfl Tryz.underlying37 sz_3 (k := 0) rfl z0 (ho.isSome (k := 0) z0)) ?_
      refine GT_st rfl rfl rfl rfl (V_load rfl rfl ag_3 (ho.at0 (k := 0) noM z0 rfl)) ?_
      refine GT_st rfl rfl rfl rfl (V_assign rfl rfl) ?_
      refine GT_nil ?_
      refine GE_drawn (.st 0 (.st 1 (.st 2 (.st 3 (.st 4 (.st 5 (.st 6 (.st 7 (.st 8 (.st 9 (.st 10 (.st 11 (.st 12 (.st 13 (.ld 14 [0, 1, 2, 3, 4, 5] (.st 15 (.st 16 (.ld 17 [] .nil)))))))))))))))))) [14, 17] (by decide +kernel) ?_
      refine GT_st rfl rfl rfl rfl (V_move rfl rfl) ?_
      refine GT_st rfl rfl rfl rfl (V_move rfl rfl) ?_
      first | refine GT_st rfl rfl rfl rfl (V_nilCheck rfl rfl) ?_ | refine GT_st rfl rfl rfl rfl (V_nilCheck_func rfl rfl) ?_ | refine GT_st rfl rfl rfl rfl (V_nilCheck_yield rfl rfl) ?_
      first | refine GT_st rfl rfl rfl rfl (V_field rfl rfl fo_97_0) ?_ | refine GT_st rfl rfl rfl rfl (V_fieldA rfl rfl fo_97_0) ?_
      first | refine GT_st rfl rfl rfl rfl (V_field rfl rfl fo_24_5) ?_ | refine GT_st rfl rfl rfl rfl (V_fieldA rfl rfl fo_24_5) ?_
      first | refine GT_st rfl rfl rfl rfl (V_load rfl rfl ag_2 (CellAt.item rfl)) ?_ | refine GT_st rfl rfl rfl rfl (V_load rfl rfl ag_2 (CellAt.old (hb.cell rfl) (noM _))) ?_
      refine GT_st rfl rfl rfl rfl (V_move rfl rfl) ?_
      refine GT_st rfl rfl rfl rfl (V_move rfl rfl) ?_
      first | refine GT_st rfl rfl rfl rfl (V_nilCheck rfl rfl) ?_ | refine GT_st rfl rfl rfl rfl (V_nilCheck_func rfl rfl) ?_ | refine GT_st rfl rfl rfl rfl (V_nilCheck_yield rfl rfl) ?_
      first | refine GT_st rfl rfl rfl rfl (V_field rfl rfl fo_97_1) ?_ | refine GT_st rfl rfl rfl rfl (V_fieldA rfl rfl fo_97_1) ?_
      first | refine GT_st rfl rfl rfl rfl (V_load rfl rfl ag_36 (CellAt.item rfl)) ?_ | refine GT_st rfl rfl rfl rfl (V_load rfl rfl ag_36 (CellAt.old (hb.cell rfl) (noM _))) ?_
      refine GT_st rfl rfl rfl rfl (V_move rfl rfl) ?_
      refine GT_st rfl rfl rfl rfl (V_index rfl rfl rfl Tryz.underlying36 sz_26 (k := 0) rfl z1 (h.isSome (k := 0) z1)) ?_
      refine GT_st rfl rfl rfl rfl (V_loadN (vs := [_, _, _]) rfl rfl ag_26 sz_26 rfl (show CellsAt _ _ _ (eTrk t) from h.ats (k := 0) noM z1)) ?_
      refine GT_call0 rfl rfl rfl rfl rfl rfl rfl rfl rn_18 (fun w hw => C_width (t := t) hf ht (hb.sh hw)) (GR_cons rfl rfl rfl rfl (V_move rfl rfl) (GR_cons rfl rfl rfl rfl (V_move rfl rfl) (GR_cons rfl rfl rfl rfl ((by first | exact V_nilCheck rfl rfl | exact V_nilCheck_func rfl rfl | exact V_nilCheck_yield rfl rfl)) (GR_cons rfl rfl rfl rfl ((by first | exact V_field rfl rfl fo_97_0 | exact V_fieldA rfl rfl fo_97_0)) (GR_cons rfl rfl rfl rfl ((by first | exact V_field rfl rfl fo_24_5 | exact V_fieldA rfl rfl fo_24_5)) (GR_cons rfl rfl rfl rfl ((by first | exact V_load rfl rfl ag_2 (CellAt.item rfl) | exact V_load rfl rfl ag_2 (CellAt.old (hb.cell rfl) (noM _)))) (GR_nil))))))) ?_
      refine GT_st rfl rfl rfl rfl (V_add rfl rfl rfl (wrap_i64 (by omega))) ?_
      refine GT_st rfl rfl rfl rfl (V_sub rfl rfl rfl ((wrap_i64 (show -9223372036854775808 ≤ f.outer - f.lead + f.gap - (f.gap + wid f t) ∧ f.outer - f.lead + f.gap - (f.gap + wid f t) ≤ 9223372036854775807 by omega)))) ?_
      refine GT_ldv rfl rfl rfl rfl rfl (V_assign rfl rfl) (GR_nil) ?_
      refine GT_nil ?_
      refine GE_inBlock ?_
      refine GE_slots (L' := [(0, _), (1, _), (5, _), (25, _), (26, _), (27, _)]) ⟨rfl, rfl, rfl, rfl, rfl, rfl, trivial⟩ ?_
      refine GE_plain (.st 0 (.ld 1 [] .nil)) rfl ?_
      refine GT_st rfl rfl rfl rfl (V_add rfl rfl rfl (wrap_i64 (by omega))) ?_
      refine GT_ldv rfl rfl rfl rfl rfl (V_move rfl rfl) (GR_nil) ?_
      refine GT_nil ?_
      exact GE_to (ih 1 (Nat.le_refl _) (show 1 - 1 < 1 - 0 by decide)) ⟨rfl, rfl, lookI rfl (show f.outer - f.lead + f.gap - (f.gap + wid f t) = f.outer - f.lead - wid f t by omega), rfl, rfl, rfl, trivial⟩ HS.nil
    · obtain rfl : k = 1 := (by omega)
      refine GE_exit rfl ?_
      refine GE_seq ?_
      refine GE_slots (L' := [(0, _), (1, _), (5, _)]) ⟨rfl, rfl, rfl, trivial⟩ ?_
      refine GE_drawn (.st 0 (.st 1 (.st 2 (.st 3 (.st 4 (.st 5 (.st 6 (.st 7 (.st 8 (.st 9 (.st 10 (.st 11 (.st 12 (.st 13 (.st 14 (.st 15 (.st 16 (.st 17 (.st 18 (.st 19 (.st 20 (.st 21 (.st 22 (.st 23 (.st 24 (.st 25 (.st 26 (.st 27 (.st 28 (.st 29 (.st 30 .nil))))))))))))))))))))))))))))))) [] (by decide +kernel) ?_
      refine GT_st rfl rfl rfl rfl (V_move rfl rfl) ?_
      refine GT_st rfl rfl rfl rfl (V_move rfl rfl) ?_
      first | refine GT_st rfl rfl rfl rfl (V_nilCheck rfl rfl) ?_ | refine GT_st rfl rfl rfl rfl (V_nilCheck_func rfl rfl) ?_ | refine GT_st rfl rfl rfl rfl (V_nilCheck_yield rfl rfl) ?_
      first | refine GT_st rfl rfl rfl rfl (V_field rfl rfl fo_97_0) ?_ | refine GT_st rfl rfl rfl rfl (V_fieldA rfl rfl fo_97_0) ?_
      first | refine GT_st rfl rfl rfl rfl (V_field rfl rfl fo_24_6) ?_ | refine GT_st rfl rfl rfl rfl (V_fieldA rfl rfl fo_24_6) ?_
      first | refine GT_st rfl rfl rfl rfl (V_load rfl rfl ag_2 (CellAt.item rfl)) ?_ | refine GT_st rfl rfl rfl rfl (V_load rfl rfl ag_2 (CellAt.old (hb.cell rfl) (noM _))) ?_
      refine GT_st rfl rfl rfl rfl (V_sub rfl rfl rfl (wrap_i64 (by omega))) ?_
      refine GT_st rfl rfl rfl rfl (V_move rfl rfl) ?_
      first | refine GT_st rfl rfl rfl rfl (V_nilCheck rfl rfl) ?_ | refine GT_st rfl rfl rfl rfl (V_nilCheck_func rfl rfl) ?_ | refine GT_st rfl rfl rfl rfl (V_nilCheck_yield rfl rfl) ?_
      first | refine GT_st rfl rfl rfl rfl (V_field rfl rfl fo_97_0) ?_ | refine GT_st rfl rfl rfl rfl (V_fieldA rfl rfl fo_97_0) ?_
      first | refine GT_st rfl rfl rfl rfl (V_field rfl rfl fo_24_2) ?_ | refine GT_st rfl rfl rfl rfl (V_fieldA rfl rfl fo_24_2) ?_
      first | refine GT_st rfl rfl rfl rfl (V_load rfl rfl ag_2 (CellAt.item rfl)) ?_ | refine GT_st rfl rfl rfl rfl (V_load rfl rfl ag_2 (CellAt.old (hb.cell rfl) (noM _))) ?_
      refine GT_st rfl rfl rfl rfl (V_lss rfl rfl rfl) ?_
      refine GT_st rfl rfl rfl rfl (V_move rfl rfl) ?_
      first | refine GT_splitNot (d := 62) rfl (fun q2 => ?_) (fun q2 => ?_) | refine GT_split (d := 62) rfl (fun q2 => ?_) (fun q2 => ?_) | refine GT_splitNotB (d := 62) rfl (fun q2 => ?_) (fun q2 => ?_) | refine GT_splitB (d := 62) rfl (fun q2 => ?_) (fun q2 => ?_)
      · skip
        refine GT_skip rfl rfl rfl rfl rfl (by decide) rfl rfl ?_
        refine GT_skip rfl rfl rfl rfl rfl (by decide) rfl rfl ?_
        refine GT_skip rfl rfl rfl rfl rfl (by decide) rfl rfl ?_
        refine GT_skip rfl rfl rfl rfl rfl (by decide) rfl rfl ?_
        refine GT_skip rfl rfl rfl rfl rfl (by decide) rfl rfl ?_
        refine GT_skip rfl rfl rfl rfl rfl (by decide) rfl rfl ?_
        refine GT_skip rfl rfl rfl rfl rfl (by decide) rfl rfl ?_
        refine GT_skip rfl rfl rfl rfl rfl (by decide) rfl rfl ?_
        refine GT_skip rfl rfl rfl rfl rfl (by decide) rfl rfl ?_
        refine GT_skip rfl rfl rfl rfl rfl (by decide) rfl rfl ?_
        refine GT_skip rfl rfl rfl rfl rfl (by decide) rfl rfl ?_
        refine GT_skip rfl rfl rfl rfl rfl (by decide) rfl rfl ?_
        refine GT_skip rfl rfl rfl rfl rfl (by decide) rfl rfl ?_
        refine GT_skip rfl rfl rfl rfl rfl (by decide) rfl rfl ?_
        refine GT_skip rfl rfl rfl rfl rfl (by decide) rfl rfl ?_
        refine GT_st rfl rfl rfl rfl (V_pick_t rfl rfl rfl) ?_
        refine GT_st rfl rfl rfl rfl (V_assign rfl rfl) ?_
        refine GT_nil ?_
        refine GE_ret Tryz.func21 rfl (fun w hw => ⟨?_, hw.nil⟩)
        rfl
      · skip
        refine GT_st_g rfl rfl rfl rfl rfl rfl rfl (V_move rfl rfl) ?_
        refine GT_st_g rfl rfl rfl rfl rfl rfl rfl (V_move rfl rfl) ?_
        first | refine GT_st_g rfl rfl rfl rfl rfl rfl rfl (V_nilCheck rfl rfl) ?_ | refine GT_st_g rfl rfl rfl rfl rfl rfl rfl (V_nilCheck_func rfl rfl) ?_ | refine GT_st_g rfl rfl rfl rfl rfl rfl rfl (V_nilCheck_yield rfl rfl) ?_
        first | refine GT_st_g rfl rfl rfl rfl rfl rfl rfl (V_field rfl rfl fo_97_1) ?_ | refine GT_st_g rfl rfl rfl rfl rfl rfl rfl (V_fieldA rfl rfl fo_97_1) ?_
        first | refine GT_st_g rfl rfl rfl rfl rfl rfl rfl (V_load rfl rfl ag_36 (CellAt.item rfl)) ?_ | refine GT_st_g rfl rfl rfl rfl rfl rfl rfl (V_load rfl rfl ag_36 (CellAt.old (hb.cell rfl) (noM _))) ?_
        refine GT_st_g rfl rfl rfl rfl rfl rfl rfl (V_move rfl rfl) ?_
        refine GT_st_g rfl rfl rfl rfl rfl rfl rfl (V_move rfl rfl) ?_
        refine GT_st_g rfl rfl rfl rfl rfl rfl rfl (V_len rfl Tryz.underlying37 rfl) ?_
        refine GT_st_g rfl rfl rfl rfl rfl rfl rfl (V_sub rfl rfl rfl (wrap_i64 (by omega))) ?_
        refine GT_st_g rfl rfl rfl rfl rfl rfl rfl (V_index rfl rfl rfl Tryz.underlying37 sz_3 (k := 0) rfl z0 (ho.isSome (k := 0) z0)) ?_
        refine GT_st_g rfl rfl rfl rfl rfl rfl rfl (V_load rfl rfl ag_3 (ho.at0 (k := 0) noM z0 rfl)) ?_
        refine GT_st_g rfl rfl rfl rfl rfl rfl rfl (V_index rfl rfl rfl Tryz.underlying36 sz_26 (k := 0) rfl z1 (h.isSome (k := 0) z1)) ?_
        first | refine GT_st_g rfl rfl rfl rfl rfl rfl rfl (V_field rfl rfl fo_26_2) ?_ | refine GT_st_g rfl rfl rfl rfl rfl rfl rfl (V_fieldA rfl rfl fo_26_2) ?_
        refine GT_st_g rfl rfl rfl rfl rfl rfl rfl (V_load rfl rfl ag_2 (show CellAt _ _ _ (I t.least) from h.at1 (k := 0) noM z1 rfl)) ?_
        refine GT_st_g rfl rfl rfl rfl rfl rfl rfl (V_isT (V_lss rfl rfl rfl) (show f.outer - f.lead - wid f t < t.least from hd.resolve_right q2)) ?_
        refine GT_st rfl rfl rfl rfl (V_pick_f rfl rfl rfl) ?_
        refine GT_st rfl rfl rfl rfl (V_assign rfl rfl) ?_
        refine GT_nil ?_
        refine GE_ret Tryz.func21 rfl (fun w hw => ⟨?_, hw.nil⟩)
        rfl
  · exact Nat.zero_le _
set_option maxRecDepth 20000 in
theorem C_Crowd (hf : f.Ok) (ht : t.Ok) (h : RdL w 3 eTrk A [t]) (he : layE f t ≠ 0) : Con Tryz.prog 9 [f.val, .slice A 1 c] w (fun y : Option Addr × Nat × Items => Own 1 3 eN [0] (.slice y.1 1 y.2.1) y.2.2) (fun y => .tuple #[.slice y.1 1 1, I 0]) (fun y => y.2.2) := by
  refine Ret_of (vs := [_, _]) hm none' Tryz.func9 rfl Tryz.ntmps9 rfl ?_
  dsimp only [slotsOf]
  refine GE_seq ?_
  refine GE_plain (.ld 0 [] (.st 1 (.st 2 .nil))) rfl ?_
  refine GT_box (z := [_, _, _, _, _, _, _, _]) rfl rfl rfl rfl rfl rfl rfl (fun _ => GR_nil) (fun b2 => ?_)
  refine GT_st rfl rfl rfl rfl (V_assign rfl rfl) ?_
  refine GT_st rfl rfl rfl rfl (V_assign rfl rfl) ?_
  refine GT_nil ?_
  refine GE_seq ?_
  refine GE_plain (.st 0 (.st 1 (.ld 2 [] (.st 3 (.st 4 (.st 5 (.st 6 (.st 7 .nil)))))))) rfl ?_
  refine GT_st rfl rfl rfl rfl (V_loadN (vs := [_, _, _, _, _, _, _, _]) rfl rfl ag_24 sz_24 rfl (CellsAt.item rfl)) ?_
  refine GT_st rfl rfl rfl rfl (V_move rfl rfl) ?_
  refine GT_call rfl rfl rfl rfl rfl rfl rfl rfl rn_13 (fun w hw => C_open (l := [t]) hf (h.sh hw) (show 1 ≤ 24 by decide) (fun x hx => by rw [List.mem_singleton] at hx; subst hx; exact ht)) (fun _ _ => GR_nil) (fun b _ => ?_)
  refine GT_st rfl rfl rfl rfl (V_move rfl rfl) ?_
  refine GT_st rfl rfl rfl rfl (V_extract rfl rfl rfl) ?_
  refine GT_st rfl rfl rfl rfl (V_extract rfl rfl rfl) ?_
  refine GT_st rfl rfl rfl rfl (V_assign rfl rfl) ?_
  refine GT_st rfl rfl rfl rfl (V_assign rfl rfl) ?_
  refine GT_nil ?_
  refine GE_seq ?_
  refine GE_seq ?_
  refine GE_slots (L' := [(6, _), (7, _)]) ⟨rfl, rfl, trivial⟩ ?_
  refine GE_plain (.st 0 (.st 1 .nil)) rfl ?_
  refine GT_st rfl rfl rfl rfl (V_move rfl rfl) ?_
  refine GT_st rfl rfl rfl rfl (V_isF (V_neq rfl rfl rfl) (fun q => q rfl)) ?_
  refine GT_nil ?_
  refine GE_cond_f rfl ?_
  refine GE_skip ?_
  refine GE_seq ?_
  refine GE_plain (.st 0 (.ld 1 [] (.st 2 .nil))) rfl ?_
  refine GT_st rfl rfl rfl rfl (V_move rfl rfl) ?_
  refine GT_call rfl rfl rfl rfl rfl rfl rfl rfl rn_19 (fun w hw => C_all_1 (BlkAt.of hw)) (fun _ _ => GR_nil) (fun y hy => ?_)
  refine GT_st rfl rfl rfl rfl (V_assign rfl rfl) ?_
  refine GT_nil ?_
  refine GE_seq ?_
  refine GE_seq ?_
  refine GE_slots (L' := [(6, _), (8, _)]) ⟨rfl, rfl, trivial⟩ ?_
  refine GE_plain (.st 0 (.st 1 (.ld 2 [] .nil))) rfl ?_
  refine GT_st rfl rfl rfl rfl (V_move rfl rfl) ?_
  refine GT_st rfl rfl rfl rfl (V_move rfl rfl) ?_
  refine GT_call0 rfl rfl rfl rfl rfl rfl rfl rfl rn_20 (fun w hw => C_possible_1 (c2 := y.2.1) hf ht (BlkAt.of hw) (h.sh hw) (hy.rdH eN_len hw)) (GR_nil) ?_
  refine GT_nil ?_
  first | refine GE_condNot rfl (fun q1 => ?_) (fun q1 => ?_) | refine GE_cond rfl (fun q1 => ?_) (fun q1 => ?_) | refine GE_condNotB rfl (fun q1 => ?_) (fun q1 => ?_) | refine GE_condB rfl (fun q1 => ?_) (fun q1 => ?_)
  · exact absurd q1 he
  · skip
    refine GE_skip ?_
    refine GE_seq ?_
    refine GE_seq ?_
    refine GE_plain (.st 0 (.st 1 (.st 2 .nil))) rfl ?_
    refine GT_st rfl rfl rfl rfl (V_move rfl rfl) ?_
    refine GT_st rfl rfl rfl rfl (V_len rfl Tryz.underlying37 rfl) ?_
    refine GT_st rfl rfl rfl rfl (V_move rfl rfl) ?_
    refine GT_nil ?_
    refine GE_block ?_
    refine GE_to (GE_loop (ι := Unit) (fun _z => 0) (fun _z => [(6, ptr b 0), (8, .slice y.1 1 y.2.1), (24, .slice y.1 1 y.2.1), (25, I 1), (26, I 0)]) (fun _z => y.2.2 ++ [(b, blk (plC f A 1 c) 97)]) (fun _z => True) ?_ () ?_) ⟨rfl, rfl, rfl, rfl, rfl, trivial⟩ (HS.chunk (HS.cons rfl HS.nil))
    · rintro _ _ ih
      refine GE_seq ?_
      refine GE_plain (.st 0 .nil) rfl ?_
      refine GT_st rfl rfl rfl rfl (V_isT (V_lss rfl rfl rfl) (by decide)) ?_
      refine GT_nil ?_
      refine GE_seq ?_
      refine GE_cond_t rfl ?_
      refine GE_skip ?_
      refine GE_seq ?_
      refine GE_block ?_
      refine GE_seq ?_
      refine GE_plain (.st 0 (.st 1 .nil)) rfl ?_
      refine GT_st rfl rfl rfl rfl (V_move rfl rfl) ?_
      refine GT_st rfl rfl rfl rfl (V_assign rfl rfl) ?_
      refine GT_nil ?_
      refine GE_seq ?_
      refine GE_plain (.st 0 (.st 1 (.st 2 (.st 3 (.st 4 (.ld 5 [] .nil)))))) rfl ?_
      refine GT_st rfl rfl rfl rfl (V_move rfl rfl) ?_
      refine GT_st rfl rfl rfl rfl (V_move rfl rfl) ?_
      refine GT_st rfl rfl rfl rfl (V_move rfl rfl) ?_
      refine GT_st rfl rfl rfl rfl (V_add rfl rfl rfl (wrap_i64 (by omega))) ?_
      refine GT_st rfl rfl rfl rfl (V_sliceTo (h := 1) rfl rfl rfl Tryz.underlying37 (by rw [sz_3]; rfl) (own_le hy)) ?_
      refine GT_call0 rfl rfl rfl rfl rfl rfl rfl rfl rn_21 (fun w hw => C_crowds_1 (c2 := y.2.1) hf ht (BlkAt.of hw) (h.sh hw) (hy.rdH eN_len hw) he) (GR_nil) ?_
      refine GT_nil ?_
      refine GE_cond_t rfl ?_
      refine GE_seq ?_
      refine GE_slots (L' := [(8, _), (9, _)]) ⟨rfl, rfl, trivial⟩ ?_
      refine GE_plain (.st 0 (.st 1 (.st 2 (.st 3 (.ld 4 [] .nil))))) rfl ?_
      refine GT_st rfl rfl rfl rfl (V_move rfl rfl) ?_
      refine GT_st rfl rfl rfl rfl (V_move rfl rfl) ?_
      refine GT_st rfl rfl rfl rfl (V_add rfl rfl rfl (wrap_i64 (by omega))) ?_
      refine GT_st rfl rfl rfl rfl (V_sliceTo (h := 1) rfl rfl rfl Tryz.underlying37 (by rw [sz_3]; rfl) (own_le hy)) ?_
      refine GT_call0 rfl rfl rfl rfl rfl rfl rfl rfl rn_22 (fun w hw => C_Sort_1) (GR_nil) ?_
      refine GT_nil ?_
      refine GE_seq ?_
      refine GE_slots (L' := [(8, _), (9, _)]) ⟨rfl, rfl, trivial⟩ ?_
      refine GE_plain (.st 0 (.st 1 (.st 2 (.st 3 (.st 4 (.st 5 (.st 6 (.st 7 .nil)))))))) rfl ?_
      refine GT_st rfl rfl rfl rfl (V_move rfl rfl) ?_
      refine GT_st rfl rfl rfl rfl (V_move rfl rfl) ?_
      refine GT_st rfl rfl rfl rfl (V_add rfl rfl rfl (wrap_i64 (by omega))) ?_
      refine GT_st rfl rfl rfl rfl (V_move rfl rfl) ?_
      refine GT_st rfl rfl rfl rfl (V_add rfl rfl rfl (wrap_i64 (by omega))) ?_
      refine GT_st rfl rfl rfl rfl (V_sliceTo3 (h := 1) (mx := 1) rfl rfl rfl rfl Tryz.underlying37 (by rw [sz_3]; rfl) (Nat.le_refl _) (own_le hy)) ?_
      refine GT_st rfl rfl rfl rfl (V_assign rfl rfl) ?_
      refine GT_st rfl rfl rfl rfl (V_assign rfl rfl) ?_
      refine GT_nil ?_
      refine GE_ret Tryz.func9 ⟨_, _, rfl, rfl, rfl⟩ (fun w hw => ?_)
      exact ⟨y, hy, rfl, hw.hs (C := cx Tryz.prog hm 0 0 _ none' fun _ _ => True) (HS.last (I := y.2.2))⟩
    · exact trivial
end
end Go.Proofs.YtogljfjbilndnaaGreatDoor.Side
/- Curves and signals that are valid, walked. -/
namespace Go.Proofs.YtogljfjbilndnaaGreatDoor.Side
open Go.Sx Go.Proofs Go.RowKit

section
variable {w : World} {A A2 : Option Addr} {c c2 : Nat} {l : List Int} {most : Int} {g : Nat}
theorem C_beyond {n : Int} (h : (0 ≤ most ∧ most ≤ 1000000) ∧ -most ≤ n ∧ n ≤ most) : Con0 Tryz.prog 114 [I n, I most] w (.bool false) := by
  refine Ret_of (vs := [_, _]) hm none' Tryz.func114 rfl Tryz.ntmps114 rfl ?_
  dsimp only [slotsOf]
  refine GE_seq ?_
  refine GE_plain (.st 0 .nil) rfl ?_
  refine GT_st rfl rfl rfl rfl (V_assign rfl rfl) ?_
  refine GT_nil ?_
  refine GE_seq ?_
  refine GE_plain (.st 0 (.st 1 (.st 2 (.st 3 (.st 4 (.st 5 (.st 6 (.st 7 (.st 8 (.st 9 .nil)))))))))) rfl ?_
  refine GT_st rfl rfl rfl rfl (V_move rfl rfl) ?_
  refine GT_st rfl rfl rfl rfl (V_move rfl rfl) ?_
  refine GT_st rfl rfl rfl rfl (V_neg rfl rfl ((wrap_i64 (by omega)).trans (show _ = -most by omega))) ?_
  refine GT_st rfl rfl rfl rfl (V_isF (V_lss rfl rfl rfl) (by omega)) ?_
  refine GT_st rfl rfl rfl rfl (V_move rfl rfl) ?_
  refine GT_st_g rfl rfl rfl rfl rfl rfl rfl (V_move rfl rfl) ?_
  refine GT_st_g rfl rfl rfl rfl rfl rfl rfl (V_move rfl rfl) ?_
  refine GT_st_g rfl rfl rfl rfl rfl rfl rfl (V_isF (V_gtr rfl rfl rfl) (by omega)) ?_
  refine GT_st rfl rfl rfl rfl (V_pick_f rfl rfl rfl) ?_
  refine GT_st rfl rfl rfl rfl (V_assign rfl rfl) ?_
  refine GT_nil ?_
  refine GE_ret Tryz.func114 rfl (fun w hw => ⟨?_, hw.nil⟩)
  rfl
theorem C_anyB1 {n : Int} (h : (0 ≤ most ∧ most ≤ 1000000) ∧ -most ≤ n ∧ n ≤ most) (hb : BlkAt w g [I most] 2) : Con0 Tryz.prog 131 [I n, ptr g 0] w (.bool false) := by
  refine Ret_of (vs := [_, _]) hm none' Tryz.func131 rfl Tryz.ntmps131 rfl ?_
  dsimp only [slotsOf]
  refine GE_seq ?_
  refine GE_plain (.st 0 .nil) rfl ?_
  refine GT_st rfl rfl rfl rfl (V_assign rfl rfl) ?_
  refine GT_nil ?_
  refine GE_seq ?_
  refine GE_plain (.st 0 (.st 1 (.ld 2 [] (.st 3 .nil)))) rfl ?_
  refine GT_st rfl rfl rfl rfl (V_move rfl rfl) ?_
  first | refine GT_st rfl rfl rfl rfl (V_load rfl rfl ag_2 (CellAt.item rfl)) ?_ | refine GT_st rfl rfl rfl rfl (V_load rfl rfl ag_2 (CellAt.old (hb.cell rfl) (noM _))) ?_
  refine GT_call0 rfl rfl rfl rfl rfl rfl rfl rfl rn_114 (fun w hw => C_beyond h) (GR_nil) ?_
  refine GT_st rfl rfl rfl rfl (V_assign rfl rfl) ?_
  refine GT_nil ?_
  refine GE_ret Tryz.func131 rfl (fun w hw => ⟨?_, hw.nil⟩)
  rfl
theorem C_IndexFF (h : RdL w 1 eN A l) (hmo : 0 ≤ most ∧ most ≤ 1000000) (hl : l.length ≤ 4096) (ha : ∀ x ∈ l, -most ≤ x ∧ x ≤ most) (hb : BlkAt w g [I most] 2) : Con0 Tryz.prog 140 [.slice A l.length c, .func (.func 131) #[] #[ptr g 0]] w (I (-1)) := by
  refine Ret_of (vs := [_, _]) hm none' Tryz.func140 rfl Tryz.ntmps140 rfl ?_
  dsimp only [slotsOf]
  refine GE_seq ?_
  refine GE_plain (.st 0 .nil) rfl ?_
  refine GT_st rfl rfl rfl rfl (V_assign rfl rfl) ?_
  refine GT_nil ?_
  refine GE_seq ?_
  refine GE_seq ?_
  refine GE_plain (.st 0 (.st 1 (.st 2 .nil))) rfl ?_
  refine GT_st rfl rfl rfl rfl (V_move rfl rfl) ?_
  refine GT_st rfl rfl rfl rfl (V_len rfl Tryz.underlying38 rfl) ?_
  refine GT_st rfl rfl rfl rfl (V_move rfl rfl) ?_
  refine GT_nil ?_
  refine GE_block ?_
  refine GE_to (GE_loop (ι := Nat) (fun k => l.length - k) (fun k => [(0, .slice A l.length c), (1, .func (.func 131) #[] #[ptr g 0]), (7, I l.length), (8, I k)]) (fun k => []) (fun k => k ≤ l.length) ?_ 0 ?_) ⟨rfl, rfl, rfl, rfl, trivial⟩ HS.nil
  · intro k hk ih
    refine GE_seq ?_
    refine GE_plain (.st 0 .nil) rfl ?_
    refine GT_st rfl rfl rfl rfl (V_lss rfl rfl rfl) ?_
    refine GT_nil ?_
    refine GE_seq ?_
    first | refine GE_condNot rfl (fun q1 => ?_) (fun q1 => ?_) | refine GE_cond rfl (fun q1 => ?_) (fun q1 => ?_) | refine GE_condNotB rfl (fun q1 => ?_) (fun q1 => ?_) | refine GE_condB rfl (fun q1 => ?_) (fun q1 => ?_)
    · have hkl : k < l.length := (by omega); have hak := ha _ (getD_memT hkl)
      refine GE_skip ?_
      refine GE_seq ?_
      refine GE_block ?_
      refine GE_seq ?_
      refine GE_plain (.st 0 (.st 1 .nil)) rfl ?_
      refine GT_st rfl rfl rfl rfl (V_move rfl rfl) ?_
      refine GT_st rfl rfl rfl rfl (V_assign rfl rfl) ?_
      refine GT_nil ?_
      refine GE_seq ?_
      refine GE_plain (.st 0 (.st 1 (.st 2 (.st 3 (.st 4 (.ld 5 [] .nil)))))) rfl ?_
      refine GT_st rfl rfl rfl rfl (V_move rfl rfl) ?_
      refine GT_st rfl rfl rfl rfl (V_move rfl rfl) ?_
      refine GT_st rfl rfl rfl rfl (V_move rfl rfl) ?_
      refine GT_st rfl rfl rfl rfl (V_index rfl rfl rfl Tryz.underlying38 sz_2 (k := k) rfl hkl (h.isSome hkl)) ?_
      refine GT_st rfl rfl rfl rfl (V_load rfl rfl ag_2 (h.at0 noM hkl rfl)) ?_
      refine GT_call0 rfl rfl rfl rfl rfl rfl rfl rfl rn_131 (fun w hw => C_anyB1 ⟨hmo, hak⟩ (hb.sh hw)) (GR_nil) ?_
      refine GT_nil ?_
      refine GE_cond_f rfl ?_
      refine GE_skip ?_
      refine GE_inBlock ?_
      refine GE_slots (L' := [(0, _), (1, _), (7, _), (8, _)]) ⟨rfl, rfl, rfl, rfl, trivial⟩ ?_
      refine GE_plain (.st 0 (.ld 1 [] .nil)) rfl ?_
      refine GT_st rfl rfl rfl rfl (V_add rfl rfl rfl (wrap_i64 (by omega))) ?_
      refine GT_ldv rfl rfl rfl rfl rfl (V_move rfl rfl) (GR_nil) ?_
      refine GT_nil ?_
      exact GE_to (ih (k + 1) (by omega) (by omega)) ⟨rfl, rfl, rfl, rfl, trivial⟩ HS.nil
    · skip
      refine GE_exit rfl ?_
      refine GE_seq ?_
      refine GE_slots (L' := []) trivial ?_
      refine GE_plain (.st 0 .nil) rfl ?_
      refine GT_st rfl rfl rfl rfl (V_assign rfl rfl) ?_
      refine GT_nil ?_
      refine GE_ret Tryz.func140 rfl (fun w hw => ⟨?_, hw.nil⟩)
      rfl
  · exact Nat.zero_le _
theorem C_ContainsFF (h : RdL w 1 eN A l) (hmo : 0 ≤ most ∧ most ≤ 1000000) (hl : l.length ≤ 4096) (ha : ∀ x ∈ l, -most ≤ x ∧ x ≤ most) (hb : BlkAt w g [I most] 2) : Con0 Tryz.prog 130 [.slice A l.length c, .func (.func 131) #[] #[ptr g 0]] w (.bool false) := by
  refine Ret_of (vs := [_, _]) hm none' Tryz.func130 rfl Tryz.ntmps130 rfl ?_
  dsimp only [slotsOf]
  refine GE_seq ?_
  refine GE_plain (.st 0 .nil) rfl ?_
  refine GT_st rfl rfl rfl rfl (V_assign rfl rfl) ?_
  refine GT_nil ?_
  refine GE_seq ?_
  refine GE_plain (.st 0 (.st 1 (.ld 2 [] (.st 3 (.st 4 .nil))))) rfl ?_
  refine GT_st rfl rfl rfl rfl (V_move rfl rfl) ?_
  refine GT_st rfl rfl rfl rfl (V_move rfl rfl) ?_
  refine GT_call0 rfl rfl rfl rfl rfl rfl rfl rfl rn_140 (fun w hw => C_IndexFF (h.sh hw) hmo hl ha (hb.sh hw)) (GR_nil) ?_
  refine GT_st rfl rfl rfl rfl (V_geq rfl rfl rfl) ?_
  refine GT_st rfl rfl rfl rfl (V_assign rfl rfl) ?_
  refine GT_nil ?_
  refine GE_ret Tryz.func130 rfl (fun w hw => ⟨?_, hw.nil⟩)
  rfl
theorem C_anyBeyond (h : RdL w 1 eN A l) (hmo : 0 ≤ most ∧ most ≤ 1000000) (hl : l.length ≤ 4096) (ha : ∀ x ∈ l, -most ≤ x ∧ x ≤ most) : Con0 Tryz.prog 109 [.slice A l.length c, I most] w (.bool false) := by
  refine Ret_of (vs := [_, _]) hm none' Tryz.func109 rfl Tryz.ntmps109 rfl ?_
  dsimp only [slotsOf]
  refine GE_seq ?_
  refine GE_plain (.ld 0 [] (.st 1 .nil)) rfl ?_
  refine GT_box (z := [_]) rfl rfl rfl rfl rfl rfl rfl (fun _ => GR_nil) (fun b3 => ?_)
  refine GT_st rfl rfl rfl rfl (V_assign rfl rfl) ?_
  refine GT_nil ?_
  refine GE_seq ?_
  refine GE_plain (.st 0 (.st 1 (.ld 2 [] (.st 3 .nil)))) rfl ?_
  refine GT_st rfl rfl rfl rfl (V_move rfl rfl) ?_
  refine GT_st rfl rfl rfl rfl (V_makeFunc rfl rfl rfl) ?_
  refine GT_call0 rfl rfl rfl rfl rfl rfl rfl rfl rn_130 (fun w hw => C_ContainsFF (h.sh hw) hmo hl ha (BlkAt.of hw)) (GR_nil) ?_
  refine GT_st rfl rfl rfl rfl (V_assign rfl rfl) ?_
  refine GT_nil ?_
  refine GE_ret Tryz.func109 rfl (fun w hw => ⟨?_, hw.nil⟩)
  rfl
theorem C_checkSignal (h : RdL w 1 eN A l) (hl : l.length ≤ 4096) (ha : ∀ x ∈ l, -32767 ≤ x ∧ x ≤ 32767) : Con0 Tryz.prog 79 [.slice A l.length c] w (I 0) := by
  refine Ret_of (vs := [_]) hm none' Tryz.func79 rfl Tryz.ntmps79 rfl ?_
  dsimp only [slotsOf]
  refine GE_seq ?_
  refine GE_plain (.st 0 .nil) rfl ?_
  refine GT_st rfl rfl rfl rfl (V_assign rfl rfl) ?_
  refine GT_nil ?_
  refine GE_seq ?_
  refine GE_seq ?_
  refine GE_plain (.st 0 (.st 1 (.st 2 .nil))) rfl ?_
  refine GT_st rfl rfl rfl rfl (V_move rfl rfl) ?_
  refine GT_st rfl rfl rfl rfl (V_len rfl Tryz.underlying38 rfl) ?_
  refine GT_st rfl rfl rfl rfl (V_isF (V_gtr rfl rfl rfl) (by omega)) ?_
  refine GT_nil ?_
  refine GE_cond_f rfl ?_
  refine GE_skip ?_
  refine GE_seq ?_
  refine GE_seq ?_
  refine GE_slots (L' := [(0, _)]) ⟨rfl, trivial⟩ ?_
  refine GE_plain (.st 0 (.ld 1 [] .nil)) rfl ?_
  refine GT_st rfl rfl rfl rfl (V_move rfl rfl) ?_
  refine GT_call0 rfl rfl rfl rfl rfl rfl rfl rfl rn_109 (fun w hw => C_anyBeyond (h.sh hw) (by decide) hl ha) (GR_nil) ?_
  refine GT_nil ?_
  refine GE_cond_f rfl ?_
  refine GE_skip ?_
  refine GE_seq ?_
  refine GE_plain (.st 0 .nil) rfl ?_
  refine GT_st rfl rfl rfl rfl (V_assign rfl rfl) ?_
  refine GT_nil ?_
  refine GE_ret Tryz.func79 rfl (fun w hw => ⟨?_, hw.nil⟩)
  rfl
/-- the curve of the example -/
theorem C_CheckCurve (hF : RdL w 1 eN A [64]) (hB : RdL w 1 eN A2 [128]) : Con0 Tryz.prog 108 [.agg #[.slice A 1 c, .slice A2 1 c2, I 256]] w (I 0) := by
  refine Ret_of (vs := [_]) hm none' Tryz.func108 rfl Tryz.ntmps108 rfl ?_
  dsimp only [slotsOf]
  refine GE_seq ?_
  refine GE_plain (.ld 0 [] (.st 1 .nil)) rfl ?_
  refine GT_box (z := [_, _, _]) rfl rfl rfl rfl rfl rfl rfl (fun _ => GR_nil) (fun b1 => ?_)
  refine GT_st rfl rfl rfl rfl (V_assign rfl rfl) ?_
  refine GT_nil ?_
  refine GE_seq ?_
  refine GE_block ?_
  refine GE_seq ?_
  refine GE_plain (.st 0 (.st 1 (.st 2 (.st 3 (.st 4 (.st 5 (.st 6 (.st 7 (.st 8 .nil))))))))) rfl ?_
  first | refine GT_st rfl rfl rfl rfl (V_field rfl rfl fo_85_0) ?_ | refine GT_st rfl rfl rfl rfl (V_fieldA rfl rfl fo_85_0) ?_
  refine GT_st rfl rfl rfl rfl (V_load rfl rfl ag_38 (CellAt.item rfl)) ?_
  refine GT_st rfl rfl rfl rfl (V_len rfl Tryz.underlying38 rfl) ?_
  first | refine GT_st rfl rfl rfl rfl (V_field rfl rfl fo_85_1) ?_ | refine GT_st rfl rfl rfl rfl (V_fieldA rfl rfl fo_85_1) ?_
  refine GT_st rfl rfl rfl rfl (V_load rfl rfl ag_38 (CellAt.item rfl)) ?_
  refine GT_st rfl rfl rfl rfl (V_len rfl Tryz.underlying38 rfl) ?_
  refine GT_st rfl rfl rfl rfl (V_max rfl rfl rfl) ?_
  refine GT_st rfl rfl rfl rfl (V_isF (V_gtr rfl rfl rfl) (by decide)) ?_
  refine GT_st rfl rfl rfl rfl (V_assign rfl rfl) ?_
  refine GT_nil ?_
  refine GE_cond_f rfl ?_
  refine GE_seq ?_
  refine GE_slots (L' := [(1, _)]) ⟨rfl, trivial⟩ ?_
  refine GE_plain (.st 0 (.st 1 (.ld 2 [] (.st 3 (.st 4 (.st 5 (.ld 6 [] (.st 7 (.st 8 (.st 9 (.st 10 (.st 11 (.st 12 (.st 13 (.st 14 (.st 15 (.st 16 (.st 17 (.st 18 .nil))))))))))))))))))) rfl ?_
  first | refine GT_st rfl rfl rfl rfl (V_field rfl rfl fo_85_0) ?_ | refine GT_st rfl rfl rfl rfl (V_fieldA rfl rfl fo_85_0) ?_
  refine GT_st rfl rfl rfl rfl (V_load rfl rfl ag_38 (CellAt.item rfl)) ?_
  refine GT_call0 rfl rfl rfl rfl rfl rfl rfl rfl rn_109 (fun w hw => C_anyBeyond (l := [64]) (hF.sh hw) (by decide) (by decide) (by decide)) (GR_nil) ?_
  refine GT_st rfl rfl rfl rfl (V_move rfl rfl) ?_
  first | refine GT_st_g rfl rfl rfl rfl rfl rfl rfl (V_field rfl rfl fo_85_1) ?_ | refine GT_st_g rfl rfl rfl rfl rfl rfl rfl (V_fieldA rfl rfl fo_85_1) ?_
  refine GT_st_g rfl rfl rfl rfl rfl rfl rfl (V_load rfl rfl ag_38 (CellAt.item rfl)) ?_
  refine GT_call0_g rfl rfl rfl rfl rfl rfl rfl rfl rfl rfl rfl rn_109 (fun w hw => C_anyBeyond (l := [128]) (hB.sh hw) (by decide) (by decide) (by decide)) (GR_nil) ?_
  refine GT_st rfl rfl rfl rfl (V_pick_f rfl rfl rfl) ?_
  refine GT_st rfl rfl rfl rfl (V_move rfl rfl) ?_
  first | refine GT_st_g rfl rfl rfl rfl rfl rfl rfl (V_field rfl rfl fo_85_2) ?_ | refine GT_st_g rfl rfl rfl rfl rfl rfl rfl (V_fieldA rfl rfl fo_85_2) ?_
  refine GT_st_g rfl rfl rfl rfl rfl rfl rfl (V_load rfl rfl ag_2 (CellAt.item rfl)) ?_
  refine GT_st_g rfl rfl rfl rfl rfl rfl rfl (V_isF (V_lss rfl rfl rfl) (by decide)) ?_
  refine GT_st rfl rfl rfl rfl (V_pick_f rfl rfl rfl) ?_
  refine GT_st rfl rfl rfl rfl (V_move rfl rfl) ?_
  first | refine GT_st_g rfl rfl rfl rfl rfl rfl rfl (V_field rfl rfl fo_85_2) ?_ | refine GT_st_g rfl rfl rfl rfl rfl rfl rfl (V_fieldA rfl rfl fo_85_2) ?_
  refine GT_st_g rfl rfl rfl rfl rfl rfl rfl (V_load rfl rfl ag_2 (CellAt.item rfl)) ?_
  refine GT_st_g rfl rfl rfl rfl rfl rfl rfl (V_isF (V_gtr rfl rfl rfl) (by decide)) ?_
  refine GT_st rfl rfl rfl rfl (V_pick_f rfl rfl rfl) ?_
  refine GT_st rfl rfl rfl rfl (V_assign rfl rfl) ?_
  refine GT_nil ?_
  refine GE_cond_f rfl ?_
  refine GE_skip ?_
  refine GE_inBlock ?_
  refine GE_seq ?_
  refine GE_slots (L' := []) trivial ?_
  refine GE_plain (.st 0 .nil) rfl ?_
  refine GT_st rfl rfl rfl rfl (V_assign rfl rfl) ?_
  refine GT_nil ?_
  refine GE_ret Tryz.func108 rfl (fun w hw => ⟨?_, hw.nil⟩)
  rfl
theorem C_checkChain {b : Nat} (hF : RdL w 1 eN A [64]) (hB : RdL w 1 eN A2 [128]) (hb : BlkAt w b [.slice A 1 c, .slice A2 1 c2, I 256] 85) : Con0 Tryz.prog 78 [.slice (some ⟨b, 0, none⟩) 1 1] w (I 0) := by
  refine Ret_of (vs := [_]) hm none' Tryz.func78 rfl Tryz.ntmps78 rfl ?_
  dsimp only [slotsOf]
  refine GE_seq ?_
  refine GE_plain (.st 0 .nil) rfl ?_
  refine GT_st rfl rfl rfl rfl (V_assign rfl rfl) ?_
  refine GT_nil ?_
  refine GE_seq ?_
  refine GE_seq ?_
  refine GE_plain (.st 0 (.st 1 (.st 2 .nil))) rfl ?_
  refine GT_st rfl rfl rfl rfl (V_move rfl rfl) ?_
  refine GT_st rfl rfl rfl rfl (V_len rfl Tryz.underlying125 rfl) ?_
  refine GT_st rfl rfl rfl rfl (V_isF (V_gtr rfl rfl rfl) (by decide)) ?_
  refine GT_nil ?_
  refine GE_cond_f rfl ?_
  refine GE_skip ?_
  refine GE_seq ?_
  refine GE_seq ?_
  refine GE_slots (L' := [(0, _)]) ⟨rfl, trivial⟩ ?_
  refine GE_plain (.st 0 (.st 1 (.st 2 .nil))) rfl ?_
  refine GT_st rfl rfl rfl rfl (V_move rfl rfl) ?_
  refine GT_st rfl rfl rfl rfl (V_len rfl Tryz.underlying125 rfl) ?_
  refine GT_st rfl rfl rfl rfl (V_move rfl rfl) ?_
  refine GT_nil ?_
  refine GE_block ?_
  refine GE_to (GE_loop (ι := Nat) (fun k => 1 - k) (fun k => [(9, .slice (some ⟨b, 0, none⟩) 1 1), (10, I 1), (11, I k)]) (fun k => []) (fun k => k ≤ 1) ?_ 0 ?_) ⟨rfl, rfl, rfl, trivial⟩ HS.nil
  · intro k hk ih
    refine GE_seq ?_
    refine GE_plain (.st 0 .nil) rfl ?_
    refine GT_st rfl rfl rfl rfl (V_lss rfl rfl rfl) ?_
    refine GT_nil ?_
    refine GE_seq ?_
    first | refine GE_condNot rfl (fun q1 => ?_) (fun q1 => ?_) | refine GE_cond rfl (fun q1 => ?_) (fun q1 => ?_) | refine GE_condNotB rfl (fun q1 => ?_) (fun q1 => ?_) | refine GE_condB rfl (fun q1 => ?_) (fun q1 => ?_)
    · obtain rfl : k = 0 := (by omega)
      refine GE_skip ?_
      refine GE_seq ?_
      refine GE_block ?_
      refine GE_seq ?_
      refine GE_plain (.st 0 (.st 1 (.ld 2 [] (.ld 3 [] .nil)))) rfl ?_
      refine GT_st rfl rfl rfl rfl (V_index rfl rfl rfl Tryz.underlying125 sz_85 (k := 0) rfl Nat.zero_lt_one rfl) ?_
      refine GT_st rfl rfl rfl rfl (V_loadN (vs := [_, _, _]) rfl rfl ag_85 sz_85 rfl (show CellsAt _ _ ⟨b, 0 * 3, none⟩ [.slice A 1 c, .slice A2 1 c2, I 256] from fun j v hj => by rw [add_lit, Nat.zero_mul, Nat.zero_add]; exact CellAt.old (hb.cell hj) (noM _))) ?_
      refine GT_alloc rfl rfl rfl rfl rfl zc_85 (fun _ => GR_nil) (fun b4 => ?_)
      refine GT_store (vs := [_, _, _]) (l' := [_, _, _]) rfl rfl rfl rfl rfl rfl rfl sz_85 rfl rfl (Nat.le_of_ble_eq_true rfl) rfl (GR_nil) ?_
      refine GT_nil ?_
      refine GE_seq ?_
      refine GE_plain (.st 0 (.ld 1 [] (.st 2 .nil))) rfl ?_
      refine GT_st rfl rfl rfl rfl (V_loadN (vs := [_, _, _]) rfl rfl ag_85 sz_85 rfl (CellsAt.item rfl)) ?_
      refine GT_call0 rfl rfl rfl rfl rfl rfl rfl rfl rn_108 (fun w hw => C_CheckCurve (hF.sh hw) (hB.sh hw)) (GR_nil) ?_
      refine GT_st rfl rfl rfl rfl (V_assign rfl rfl) ?_
      refine GT_nil ?_
      refine GE_seq ?_
      refine GE_slots (L' := [(5, _), (9, _), (10, _), (11, _)]) ⟨rfl, rfl, rfl, rfl, trivial⟩ ?_
      refine GE_plain (.st 0 (.st 1 .nil)) rfl ?_
      refine GT_st rfl rfl rfl rfl (V_move rfl rfl) ?_
      refine GT_st rfl rfl rfl rfl (V_isF (V_neq rfl rfl rfl) (fun q => q rfl)) ?_
      refine GT_nil ?_
      refine GE_cond_f rfl ?_
      refine GE_skip ?_
      refine GE_inBlock ?_
      refine GE_plain (.st 0 (.ld 1 [] .nil)) rfl ?_
      refine GT_st rfl rfl rfl rfl (V_add rfl rfl rfl (wrap_i64 (by omega))) ?_
      refine GT_ldv rfl rfl rfl rfl rfl (V_move rfl rfl) (GR_nil) ?_
      refine GT_nil ?_
      exact GE_to (ih 1 (Nat.le_refl _) (show 1 - 1 < 1 - 0 by decide)) ⟨rfl, rfl, rfl, trivial⟩ HS.nil
    · obtain rfl : k = 1 := (by omega)
      refine GE_exit rfl ?_
      refine GE_seq ?_
      refine GE_slots (L' := []) trivial ?_
      refine GE_plain (.st 0 .nil) rfl ?_
      refine GT_st rfl rfl rfl rfl (V_assign rfl rfl) ?_
      refine GT_nil ?_
      refine GE_ret Tryz.func78 rfl (fun w hw => ⟨?_, hw.nil⟩)
      rfl
  · exact Nat.zero_le _
end
end Go.Proofs.YtogljfjbilndnaaGreatDoor.Side
