/- The program's tables, asked once. -/
import Derived.Test.YtfaggcmcfhljpaaSx8
import Derived.Test.YtfaggcmcfhljpaaProg
namespace Go.Proofs.Ytfaggcmcfhljpaa
open Go.Sx Go.Proofs
theorem sz_1 : szOf Try.prog 1 = some 1 := by kernel_rfl
theorem by_1 : byOf Try.prog 1 = some 8 := by kernel_rfl
theorem ag_1 : aggOf Try.prog 1 = some false := by kernel_rfl
theorem zc_1 : zcOf Try.prog 1 = some [.nilFunc] := by kernel_rfl
theorem sz_2 : szOf Try.prog 2 = some 1 := by kernel_rfl
theorem by_2 : byOf Try.prog 2 = some 8 := by kernel_rfl
theorem ag_2 : aggOf Try.prog 2 = some false := by kernel_rfl
theorem zc_2 : zcOf Try.prog 2 = some [.int .i64 0] := by kernel_rfl
theorem sz_3 : szOf Try.prog 3 = some 1 := by kernel_rfl
theorem by_3 : byOf Try.prog 3 = some 8 := by kernel_rfl
theorem ag_3 : aggOf Try.prog 3 = some false := by kernel_rfl
theorem zc_3 : zcOf Try.prog 3 = some [.int .i64 0] := by kernel_rfl
theorem sz_4 : szOf Try.prog 4 = some 1 := by kernel_rfl
theorem by_4 : byOf Try.prog 4 = some 1 := by kernel_rfl
theorem ag_4 : aggOf Try.prog 4 = some false := by kernel_rfl
theorem zc_4 : zcOf Try.prog 4 = some [.bool false] := by kernel_rfl
theorem sz_5 : szOf Try.prog 5 = some 1 := by kernel_rfl
theorem by_5 : byOf Try.prog 5 = some 1 := by kernel_rfl
theorem ag_5 : aggOf Try.prog 5 = some false := by kernel_rfl
theorem zc_5 : zcOf Try.prog 5 = some [.int .u8 0] := by kernel_rfl
theorem sz_6 : szOf Try.prog 6 = some 1 := by kernel_rfl
theorem by_6 : byOf Try.prog 6 = some 1 := by kernel_rfl
theorem ag_6 : aggOf Try.prog 6 = some false := by kernel_rfl
theorem zc_6 : zcOf Try.prog 6 = some [.int .u8 0] := by kernel_rfl
theorem sz_7 : szOf Try.prog 7 = some 4 := by kernel_rfl
theorem by_7 : byOf Try.prog 7 = some 24 := by kernel_rfl
theorem ag_7 : aggOf Try.prog 7 = some true := by kernel_rfl
theorem zc_7 : zcOf Try.prog 7 = some [.int .i64 0, .int .i64 0, .bool false, .int .u8 0] := by kernel_rfl
theorem sa_7 : isAggOf Try.prog 7 = true := by kernel_rfl
theorem pl_7 : plOf Try.prog 7 = some [(0, 1), (1, 1), (2, 1), (3, 1)] := by kernel_rfl
theorem fo_7_0 : foOf Try.prog 7 0 = some 0 := by kernel_rfl
theorem fi_7_0 : fiOf Try.prog 7 0 = some (0, 1, false) := by kernel_rfl
theorem fo_7_1 : foOf Try.prog 7 1 = some 1 := by kernel_rfl
theorem fi_7_1 : fiOf Try.prog 7 1 = some (1, 1, false) := by kernel_rfl
theorem fo_7_2 : foOf Try.prog 7 2 = some 2 := by kernel_rfl
theorem fi_7_2 : fiOf Try.prog 7 2 = some (2, 1, false) := by kernel_rfl
theorem fo_7_3 : foOf Try.prog 7 3 = some 3 := by kernel_rfl
theorem fi_7_3 : fiOf Try.prog 7 3 = some (3, 1, false) := by kernel_rfl
theorem sz_8 : szOf Try.prog 8 = some 4 := by kernel_rfl
theorem by_8 : byOf Try.prog 8 = some 24 := by kernel_rfl
theorem ag_8 : aggOf Try.prog 8 = some true := by kernel_rfl
theorem zc_8 : zcOf Try.prog 8 = some [.int .i64 0, .int .i64 0, .bool false, .int .u8 0] := by kernel_rfl
theorem sa_8 : isAggOf Try.prog 8 = true := by kernel_rfl
theorem pl_8 : plOf Try.prog 8 = some [(0, 1), (1, 1), (2, 1), (3, 1)] := by kernel_rfl
theorem fo_8_0 : foOf Try.prog 8 0 = some 0 := by kernel_rfl
theorem fi_8_0 : fiOf Try.prog 8 0 = some (0, 1, false) := by kernel_rfl
theorem fo_8_1 : foOf Try.prog 8 1 = some 1 := by kernel_rfl
theorem fi_8_1 : fiOf Try.prog 8 1 = some (1, 1, false) := by kernel_rfl
theorem fo_8_2 : foOf Try.prog 8 2 = some 2 := by kernel_rfl
theorem fi_8_2 : fiOf Try.prog 8 2 = some (2, 1, false) := by kernel_rfl
theorem fo_8_3 : foOf Try.prog 8 3 = some 3 := by kernel_rfl
theorem fi_8_3 : fiOf Try.prog 8 3 = some (3, 1, false) := by kernel_rfl
theorem sz_9 : szOf Try.prog 9 = some 1 := by kernel_rfl
theorem by_9 : byOf Try.prog 9 = some 16 := by kernel_rfl
theorem ag_9 : aggOf Try.prog 9 = some false := by kernel_rfl
theorem zc_9 : zcOf Try.prog 9 = some [.string .empty] := by kernel_rfl
theorem sz_10 : szOf Try.prog 10 = some 1 := by kernel_rfl
theorem by_10 : byOf Try.prog 10 = some 16 := by kernel_rfl
theorem ag_10 : aggOf Try.prog 10 = some false := by kernel_rfl
theorem zc_10 : zcOf Try.prog 10 = some [.string .empty] := by kernel_rfl
theorem sz_11 : szOf Try.prog 11 = some 1 := by kernel_rfl
theorem by_11 : byOf Try.prog 11 = some 16 := by kernel_rfl
theorem ag_11 : aggOf Try.prog 11 = some false := by kernel_rfl
theorem zc_11 : zcOf Try.prog 11 = some [.string .empty] := by kernel_rfl
theorem sz_12 : szOf Try.prog 12 = some 1 := by kernel_rfl
theorem by_12 : byOf Try.prog 12 = some 8 := by kernel_rfl
theorem ag_12 : aggOf Try.prog 12 = some false := by kernel_rfl
theorem zc_12 : zcOf Try.prog 12 = some [.int .u64 0] := by kernel_rfl
theorem sz_13 : szOf Try.prog 13 = some 2 := by kernel_rfl
theorem by_13 : byOf Try.prog 13 = some 24 := by kernel_rfl
theorem ag_13 : aggOf Try.prog 13 = some true := by kernel_rfl
theorem zc_13 : zcOf Try.prog 13 = some [.string .empty, .int .u64 0] := by kernel_rfl
theorem sa_13 : isAggOf Try.prog 13 = true := by kernel_rfl
theorem pl_13 : plOf Try.prog 13 = some [(0, 1), (1, 1)] := by kernel_rfl
theorem fo_13_0 : foOf Try.prog 13 0 = some 0 := by kernel_rfl
theorem fi_13_0 : fiOf Try.prog 13 0 = some (0, 1, false) := by kernel_rfl
theorem fo_13_1 : foOf Try.prog 13 1 = some 1 := by kernel_rfl
theorem fi_13_1 : fiOf Try.prog 13 1 = some (1, 1, false) := by kernel_rfl
theorem sz_14 : szOf Try.prog 14 = some 2 := by kernel_rfl
theorem by_14 : byOf Try.prog 14 = some 24 := by kernel_rfl
theorem ag_14 : aggOf Try.prog 14 = some true := by kernel_rfl
theorem zc_14 : zcOf Try.prog 14 = some [.string .empty, .int .u64 0] := by kernel_rfl
theorem sa_14 : isAggOf Try.prog 14 = true := by kernel_rfl
theorem pl_14 : plOf Try.prog 14 = some [(0, 1), (1, 1)] := by kernel_rfl
theorem fo_14_0 : foOf Try.prog 14 0 = some 0 := by kernel_rfl
theorem fi_14_0 : fiOf Try.prog 14 0 = some (0, 1, false) := by kernel_rfl
theorem fo_14_1 : foOf Try.prog 14 1 = some 1 := by kernel_rfl
theorem fi_14_1 : fiOf Try.prog 14 1 = some (1, 1, false) := by kernel_rfl
theorem sz_15 : szOf Try.prog 15 = some 1 := by kernel_rfl
theorem by_15 : byOf Try.prog 15 = some 8 := by kernel_rfl
theorem ag_15 : aggOf Try.prog 15 = some false := by kernel_rfl
theorem zc_15 : zcOf Try.prog 15 = some [.pointer none] := by kernel_rfl
theorem sz_16 : szOf Try.prog 16 = some 1 := by kernel_rfl
theorem by_16 : byOf Try.prog 16 = some 8 := by kernel_rfl
theorem ag_16 : aggOf Try.prog 16 = some false := by kernel_rfl
theorem zc_16 : zcOf Try.prog 16 = some [.pointer none] := by kernel_rfl
theorem sz_17 : szOf Try.prog 17 = some 1 := by kernel_rfl
theorem by_17 : byOf Try.prog 17 = some 8 := by kernel_rfl
theorem ag_17 : aggOf Try.prog 17 = some false := by kernel_rfl
theorem zc_17 : zcOf Try.prog 17 = some [.pointer none] := by kernel_rfl
theorem sz_18 : szOf Try.prog 18 = some 1 := by kernel_rfl
theorem by_18 : byOf Try.prog 18 = some 8 := by kernel_rfl
theorem ag_18 : aggOf Try.prog 18 = some true := by kernel_rfl
theorem zc_18 : zcOf Try.prog 18 = some [.pointer none] := by kernel_rfl
theorem sa_18 : isAggOf Try.prog 18 = true := by kernel_rfl
theorem pl_18 : plOf Try.prog 18 = some [(0, 1)] := by kernel_rfl
theorem fo_18_0 : foOf Try.prog 18 0 = some 0 := by kernel_rfl
theorem fi_18_0 : fiOf Try.prog 18 0 = some (0, 1, false) := by kernel_rfl
theorem sz_19 : szOf Try.prog 19 = some 1 := by kernel_rfl
theorem by_19 : byOf Try.prog 19 = some 8 := by kernel_rfl
theorem ag_19 : aggOf Try.prog 19 = some true := by kernel_rfl
theorem zc_19 : zcOf Try.prog 19 = some [.pointer none] := by kernel_rfl
theorem sa_19 : isAggOf Try.prog 19 = true := by kernel_rfl
theorem pl_19 : plOf Try.prog 19 = some [(0, 1)] := by kernel_rfl
theorem fo_19_0 : foOf Try.prog 19 0 = some 0 := by kernel_rfl
theorem fi_19_0 : fiOf Try.prog 19 0 = some (0, 1, false) := by kernel_rfl
theorem sz_20 : szOf Try.prog 20 = some 1 := by kernel_rfl
theorem by_20 : byOf Try.prog 20 = some 16 := by kernel_rfl
theorem ag_20 : aggOf Try.prog 20 = some false := by kernel_rfl
theorem zc_20 : zcOf Try.prog 20 = some [.nilIface] := by kernel_rfl
theorem sz_21 : szOf Try.prog 21 = some 1 := by kernel_rfl
theorem by_21 : byOf Try.prog 21 = some 4 := by kernel_rfl
theorem ag_21 : aggOf Try.prog 21 = some false := by kernel_rfl
theorem zc_21 : zcOf Try.prog 21 = some [.int .i32 0] := by kernel_rfl
theorem sz_22 : szOf Try.prog 22 = some 1 := by kernel_rfl
theorem by_22 : byOf Try.prog 22 = some 2 := by kernel_rfl
theorem ag_22 : aggOf Try.prog 22 = some false := by kernel_rfl
theorem zc_22 : zcOf Try.prog 22 = some [.int .u16 0] := by kernel_rfl
theorem sz_23 : szOf Try.prog 23 = some 2 := by kernel_rfl
theorem by_23 : byOf Try.prog 23 = some 4 := by kernel_rfl
theorem ag_23 : aggOf Try.prog 23 = some true := by kernel_rfl
theorem zc_23 : zcOf Try.prog 23 = some [.int .u16 0, .int .u16 0] := by kernel_rfl
theorem sa_23 : isAggOf Try.prog 23 = true := by kernel_rfl
theorem pl_23 : plOf Try.prog 23 = some [(0, 1), (1, 1)] := by kernel_rfl
theorem sz_24 : szOf Try.prog 24 = some 1 := by kernel_rfl
theorem by_24 : byOf Try.prog 24 = some 8 := by kernel_rfl
theorem ag_24 : aggOf Try.prog 24 = some false := by kernel_rfl
theorem zc_24 : zcOf Try.prog 24 = some [.int .i64 0] := by kernel_rfl
theorem sz_26 : szOf Try.prog 26 = some 1 := by kernel_rfl
theorem by_26 : byOf Try.prog 26 = some 8 := by kernel_rfl
theorem ag_26 : aggOf Try.prog 26 = some false := by kernel_rfl
theorem zc_26 : zcOf Try.prog 26 = some [.nilFunc] := by kernel_rfl
theorem sz_28 : szOf Try.prog 28 = some 1 := by kernel_rfl
theorem by_28 : byOf Try.prog 28 = some 8 := by kernel_rfl
theorem ag_28 : aggOf Try.prog 28 = some false := by kernel_rfl
theorem zc_28 : zcOf Try.prog 28 = some [.nilFunc] := by kernel_rfl
theorem sz_29 : szOf Try.prog 29 = some 1 := by kernel_rfl
theorem by_29 : byOf Try.prog 29 = some 8 := by kernel_rfl
theorem ag_29 : aggOf Try.prog 29 = some false := by kernel_rfl
theorem zc_29 : zcOf Try.prog 29 = some [.nilFunc] := by kernel_rfl
theorem sz_30 : szOf Try.prog 30 = some 1 := by kernel_rfl
theorem by_30 : byOf Try.prog 30 = some 8 := by kernel_rfl
theorem ag_30 : aggOf Try.prog 30 = some false := by kernel_rfl
theorem zc_30 : zcOf Try.prog 30 = some [.nilFunc] := by kernel_rfl
theorem sz_32 : szOf Try.prog 32 = some 1 := by kernel_rfl
theorem by_32 : byOf Try.prog 32 = some 8 := by kernel_rfl
theorem ag_32 : aggOf Try.prog 32 = some false := by kernel_rfl
theorem zc_32 : zcOf Try.prog 32 = some [.nilFunc] := by kernel_rfl
theorem sz_33 : szOf Try.prog 33 = some 1 := by kernel_rfl
theorem by_33 : byOf Try.prog 33 = some 8 := by kernel_rfl
theorem ag_33 : aggOf Try.prog 33 = some false := by kernel_rfl
theorem zc_33 : zcOf Try.prog 33 = some [.nilFunc] := by kernel_rfl
theorem sz_34 : szOf Try.prog 34 = some 1 := by kernel_rfl
theorem by_34 : byOf Try.prog 34 = some 8 := by kernel_rfl
theorem ag_34 : aggOf Try.prog 34 = some false := by kernel_rfl
theorem zc_34 : zcOf Try.prog 34 = some [.nilFunc] := by kernel_rfl
theorem sz_35 : szOf Try.prog 35 = some 1 := by kernel_rfl
theorem by_35 : byOf Try.prog 35 = some 8 := by kernel_rfl
theorem ag_35 : aggOf Try.prog 35 = some false := by kernel_rfl
theorem zc_35 : zcOf Try.prog 35 = some [.nilFunc] := by kernel_rfl
theorem sz_36 : szOf Try.prog 36 = some 1 := by kernel_rfl
theorem by_36 : byOf Try.prog 36 = some 24 := by kernel_rfl
theorem ag_36 : aggOf Try.prog 36 = some false := by kernel_rfl
theorem zc_36 : zcOf Try.prog 36 = some [.slice none 0 0] := by kernel_rfl
theorem sz_37 : szOf Try.prog 37 = some 1 := by kernel_rfl
theorem by_37 : byOf Try.prog 37 = some 24 := by kernel_rfl
theorem ag_37 : aggOf Try.prog 37 = some false := by kernel_rfl
theorem zc_37 : zcOf Try.prog 37 = some [.slice none 0 0] := by kernel_rfl
theorem sz_38 : szOf Try.prog 38 = some 1 := by kernel_rfl
theorem by_38 : byOf Try.prog 38 = some 8 := by kernel_rfl
theorem ag_38 : aggOf Try.prog 38 = some false := by kernel_rfl
theorem zc_38 : zcOf Try.prog 38 = some [.nilFunc] := by kernel_rfl
theorem sz_39 : szOf Try.prog 39 = some 1 := by kernel_rfl
theorem by_39 : byOf Try.prog 39 = some 24 := by kernel_rfl
theorem ag_39 : aggOf Try.prog 39 = some false := by kernel_rfl
theorem zc_39 : zcOf Try.prog 39 = some [.slice none 0 0] := by kernel_rfl
theorem sz_41 : szOf Try.prog 41 = some 1 := by kernel_rfl
theorem by_41 : byOf Try.prog 41 = some 8 := by kernel_rfl
theorem ag_41 : aggOf Try.prog 41 = some false := by kernel_rfl
theorem zc_41 : zcOf Try.prog 41 = some [.nilFunc] := by kernel_rfl
theorem sz_42 : szOf Try.prog 42 = some 1 := by kernel_rfl
theorem by_42 : byOf Try.prog 42 = some 24 := by kernel_rfl
theorem ag_42 : aggOf Try.prog 42 = some false := by kernel_rfl
theorem zc_42 : zcOf Try.prog 42 = some [.slice none 0 0] := by kernel_rfl
theorem sz_44 : szOf Try.prog 44 = some 1 := by kernel_rfl
theorem by_44 : byOf Try.prog 44 = some 8 := by kernel_rfl
theorem ag_44 : aggOf Try.prog 44 = some false := by kernel_rfl
theorem zc_44 : zcOf Try.prog 44 = some [.nilFunc] := by kernel_rfl
theorem sz_45 : szOf Try.prog 45 = some 2 := by kernel_rfl
theorem by_45 : byOf Try.prog 45 = some 16 := by kernel_rfl
theorem ag_45 : aggOf Try.prog 45 = some true := by kernel_rfl
theorem zc_45 : zcOf Try.prog 45 = some [.int .i64 0, .int .i64 0] := by kernel_rfl
theorem sa_45 : isAggOf Try.prog 45 = true := by kernel_rfl
theorem pl_45 : plOf Try.prog 45 = some [(0, 1), (1, 1)] := by kernel_rfl
theorem fo_45_0 : foOf Try.prog 45 0 = some 0 := by kernel_rfl
theorem fi_45_0 : fiOf Try.prog 45 0 = some (0, 1, false) := by kernel_rfl
theorem fo_45_1 : foOf Try.prog 45 1 = some 1 := by kernel_rfl
theorem fi_45_1 : fiOf Try.prog 45 1 = some (1, 1, false) := by kernel_rfl
theorem sz_46 : szOf Try.prog 46 = some 2 := by kernel_rfl
theorem by_46 : byOf Try.prog 46 = some 16 := by kernel_rfl
theorem ag_46 : aggOf Try.prog 46 = some true := by kernel_rfl
theorem zc_46 : zcOf Try.prog 46 = some [.int .i64 0, .int .i64 0] := by kernel_rfl
theorem sa_46 : isAggOf Try.prog 46 = true := by kernel_rfl
theorem pl_46 : plOf Try.prog 46 = some [(0, 1), (1, 1)] := by kernel_rfl
theorem fo_46_0 : foOf Try.prog 46 0 = some 0 := by kernel_rfl
theorem fi_46_0 : fiOf Try.prog 46 0 = some (0, 1, false) := by kernel_rfl
theorem fo_46_1 : foOf Try.prog 46 1 = some 1 := by kernel_rfl
theorem fi_46_1 : fiOf Try.prog 46 1 = some (1, 1, false) := by kernel_rfl
theorem sz_47 : szOf Try.prog 47 = some 1 := by kernel_rfl
theorem by_47 : byOf Try.prog 47 = some 8 := by kernel_rfl
theorem ag_47 : aggOf Try.prog 47 = some false := by kernel_rfl
theorem zc_47 : zcOf Try.prog 47 = some [.nilFunc] := by kernel_rfl
theorem sz_48 : szOf Try.prog 48 = some 1 := by kernel_rfl
theorem by_48 : byOf Try.prog 48 = some 8 := by kernel_rfl
theorem ag_48 : aggOf Try.prog 48 = some false := by kernel_rfl
theorem zc_48 : zcOf Try.prog 48 = some [.nilFunc] := by kernel_rfl
theorem sz_49 : szOf Try.prog 49 = some 7 := by kernel_rfl
theorem by_49 : byOf Try.prog 49 = some 56 := by kernel_rfl
theorem ag_49 : aggOf Try.prog 49 = some true := by kernel_rfl
theorem zc_49 : zcOf Try.prog 49 = some [.int .i64 0, .int .i64 0, .int .i64 0, .int .i64 0, .int .i64 0, .int .i64 0, .bool false] := by kernel_rfl
theorem sa_49 : isAggOf Try.prog 49 = true := by kernel_rfl
theorem pl_49 : plOf Try.prog 49 = some [(0, 1), (1, 1), (2, 1), (3, 1), (4, 1), (5, 1), (6, 1)] := by kernel_rfl
theorem fo_49_0 : foOf Try.prog 49 0 = some 0 := by kernel_rfl
theorem fi_49_0 : fiOf Try.prog 49 0 = some (0, 1, false) := by kernel_rfl
theorem fo_49_1 : foOf Try.prog 49 1 = some 1 := by kernel_rfl
theorem fi_49_1 : fiOf Try.prog 49 1 = some (1, 1, false) := by kernel_rfl
theorem fo_49_2 : foOf Try.prog 49 2 = some 2 := by kernel_rfl
theorem fi_49_2 : fiOf Try.prog 49 2 = some (2, 1, false) := by kernel_rfl
theorem fo_49_3 : foOf Try.prog 49 3 = some 3 := by kernel_rfl
theorem fi_49_3 : fiOf Try.prog 49 3 = some (3, 1, false) := by kernel_rfl
theorem fo_49_4 : foOf Try.prog 49 4 = some 4 := by kernel_rfl
theorem fi_49_4 : fiOf Try.prog 49 4 = some (4, 1, false) := by kernel_rfl
theorem fo_49_5 : foOf Try.prog 49 5 = some 5 := by kernel_rfl
theorem fi_49_5 : fiOf Try.prog 49 5 = some (5, 1, false) := by kernel_rfl
theorem fo_49_6 : foOf Try.prog 49 6 = some 6 := by kernel_rfl
theorem fi_49_6 : fiOf Try.prog 49 6 = some (6, 1, false) := by kernel_rfl
theorem sz_50 : szOf Try.prog 50 = some 7 := by kernel_rfl
theorem by_50 : byOf Try.prog 50 = some 56 := by kernel_rfl
theorem ag_50 : aggOf Try.prog 50 = some true := by kernel_rfl
theorem zc_50 : zcOf Try.prog 50 = some [.int .i64 0, .int .i64 0, .int .i64 0, .int .i64 0, .int .i64 0, .int .i64 0, .bool false] := by kernel_rfl
theorem sa_50 : isAggOf Try.prog 50 = true := by kernel_rfl
theorem pl_50 : plOf Try.prog 50 = some [(0, 1), (1, 1), (2, 1), (3, 1), (4, 1), (5, 1), (6, 1)] := by kernel_rfl
theorem fo_50_0 : foOf Try.prog 50 0 = some 0 := by kernel_rfl
theorem fi_50_0 : fiOf Try.prog 50 0 = some (0, 1, false) := by kernel_rfl
theorem fo_50_1 : foOf Try.prog 50 1 = some 1 := by kernel_rfl
theorem fi_50_1 : fiOf Try.prog 50 1 = some (1, 1, false) := by kernel_rfl
theorem fo_50_2 : foOf Try.prog 50 2 = some 2 := by kernel_rfl
theorem fi_50_2 : fiOf Try.prog 50 2 = some (2, 1, false) := by kernel_rfl
theorem fo_50_3 : foOf Try.prog 50 3 = some 3 := by kernel_rfl
theorem fi_50_3 : fiOf Try.prog 50 3 = some (3, 1, false) := by kernel_rfl
theorem fo_50_4 : foOf Try.prog 50 4 = some 4 := by kernel_rfl
theorem fi_50_4 : fiOf Try.prog 50 4 = some (4, 1, false) := by kernel_rfl
theorem fo_50_5 : foOf Try.prog 50 5 = some 5 := by kernel_rfl
theorem fi_50_5 : fiOf Try.prog 50 5 = some (5, 1, false) := by kernel_rfl
theorem fo_50_6 : foOf Try.prog 50 6 = some 6 := by kernel_rfl
theorem fi_50_6 : fiOf Try.prog 50 6 = some (6, 1, false) := by kernel_rfl
theorem sz_51 : szOf Try.prog 51 = some 1 := by kernel_rfl
theorem by_51 : byOf Try.prog 51 = some 8 := by kernel_rfl
theorem ag_51 : aggOf Try.prog 51 = some false := by kernel_rfl
theorem zc_51 : zcOf Try.prog 51 = some [.nilFunc] := by kernel_rfl
theorem sz_52 : szOf Try.prog 52 = some 7 := by kernel_rfl
theorem by_52 : byOf Try.prog 52 = some 56 := by kernel_rfl
theorem ag_52 : aggOf Try.prog 52 = some true := by kernel_rfl
theorem zc_52 : zcOf Try.prog 52 = some [.int .i64 0, .int .i64 0, .int .i64 0, .int .i64 0, .int .i64 0, .int .i64 0, .bool false] := by kernel_rfl
theorem sa_52 : isAggOf Try.prog 52 = true := by kernel_rfl
theorem pl_52 : plOf Try.prog 52 = some [(0, 1), (1, 1), (2, 1), (3, 1), (4, 1), (5, 1), (6, 1)] := by kernel_rfl
theorem fo_52_0 : foOf Try.prog 52 0 = some 0 := by kernel_rfl
theorem fi_52_0 : fiOf Try.prog 52 0 = some (0, 1, false) := by kernel_rfl
theorem fo_52_1 : foOf Try.prog 52 1 = some 1 := by kernel_rfl
theorem fi_52_1 : fiOf Try.prog 52 1 = some (1, 1, false) := by kernel_rfl
theorem fo_52_2 : foOf Try.prog 52 2 = some 2 := by kernel_rfl
theorem fi_52_2 : fiOf Try.prog 52 2 = some (2, 1, false) := by kernel_rfl
theorem fo_52_3 : foOf Try.prog 52 3 = some 3 := by kernel_rfl
theorem fi_52_3 : fiOf Try.prog 52 3 = some (3, 1, false) := by kernel_rfl
theorem fo_52_4 : foOf Try.prog 52 4 = some 4 := by kernel_rfl
theorem fi_52_4 : fiOf Try.prog 52 4 = some (4, 1, false) := by kernel_rfl
theorem fo_52_5 : foOf Try.prog 52 5 = some 5 := by kernel_rfl
theorem fi_52_5 : fiOf Try.prog 52 5 = some (5, 1, false) := by kernel_rfl
theorem fo_52_6 : foOf Try.prog 52 6 = some 6 := by kernel_rfl
theorem fi_52_6 : fiOf Try.prog 52 6 = some (6, 1, false) := by kernel_rfl
theorem sz_53 : szOf Try.prog 53 = some 7 := by kernel_rfl
theorem by_53 : byOf Try.prog 53 = some 56 := by kernel_rfl
theorem ag_53 : aggOf Try.prog 53 = some true := by kernel_rfl
theorem zc_53 : zcOf Try.prog 53 = some [.int .i64 0, .int .i64 0, .int .i64 0, .int .i64 0, .int .i64 0, .int .i64 0, .bool false] := by kernel_rfl
theorem sa_53 : isAggOf Try.prog 53 = true := by kernel_rfl
theorem pl_53 : plOf Try.prog 53 = some [(0, 1), (1, 1), (2, 1), (3, 1), (4, 1), (5, 1), (6, 1)] := by kernel_rfl
theorem fo_53_0 : foOf Try.prog 53 0 = some 0 := by kernel_rfl
theorem fi_53_0 : fiOf Try.prog 53 0 = some (0, 1, false) := by kernel_rfl
theorem fo_53_1 : foOf Try.prog 53 1 = some 1 := by kernel_rfl
theorem fi_53_1 : fiOf Try.prog 53 1 = some (1, 1, false) := by kernel_rfl
theorem fo_53_2 : foOf Try.prog 53 2 = some 2 := by kernel_rfl
theorem fi_53_2 : fiOf Try.prog 53 2 = some (2, 1, false) := by kernel_rfl
theorem fo_53_3 : foOf Try.prog 53 3 = some 3 := by kernel_rfl
theorem fi_53_3 : fiOf Try.prog 53 3 = some (3, 1, false) := by kernel_rfl
theorem fo_53_4 : foOf Try.prog 53 4 = some 4 := by kernel_rfl
theorem fi_53_4 : fiOf Try.prog 53 4 = some (4, 1, false) := by kernel_rfl
theorem fo_53_5 : foOf Try.prog 53 5 = some 5 := by kernel_rfl
theorem fi_53_5 : fiOf Try.prog 53 5 = some (5, 1, false) := by kernel_rfl
theorem fo_53_6 : foOf Try.prog 53 6 = some 6 := by kernel_rfl
theorem fi_53_6 : fiOf Try.prog 53 6 = some (6, 1, false) := by kernel_rfl
theorem sz_54 : szOf Try.prog 54 = some 1 := by kernel_rfl
theorem by_54 : byOf Try.prog 54 = some 24 := by kernel_rfl
theorem ag_54 : aggOf Try.prog 54 = some false := by kernel_rfl
theorem zc_54 : zcOf Try.prog 54 = some [.slice none 0 0] := by kernel_rfl
theorem sz_56 : szOf Try.prog 56 = some 1 := by kernel_rfl
theorem by_56 : byOf Try.prog 56 = some 8 := by kernel_rfl
theorem ag_56 : aggOf Try.prog 56 = some false := by kernel_rfl
theorem zc_56 : zcOf Try.prog 56 = some [.nilFunc] := by kernel_rfl
theorem sz_57 : szOf Try.prog 57 = some 1 := by kernel_rfl
theorem by_57 : byOf Try.prog 57 = some 8 := by kernel_rfl
theorem ag_57 : aggOf Try.prog 57 = some false := by kernel_rfl
theorem zc_57 : zcOf Try.prog 57 = some [.nilFunc] := by kernel_rfl
theorem sz_58 : szOf Try.prog 58 = some 1 := by kernel_rfl
theorem by_58 : byOf Try.prog 58 = some 8 := by kernel_rfl
theorem ag_58 : aggOf Try.prog 58 = some false := by kernel_rfl
theorem zc_58 : zcOf Try.prog 58 = some [.nilFunc] := by kernel_rfl
theorem sz_59 : szOf Try.prog 59 = some 1 := by kernel_rfl
theorem by_59 : byOf Try.prog 59 = some 8 := by kernel_rfl
theorem ag_59 : aggOf Try.prog 59 = some false := by kernel_rfl
theorem zc_59 : zcOf Try.prog 59 = some [.nilFunc] := by kernel_rfl
theorem sz_60 : szOf Try.prog 60 = some 2 := by kernel_rfl
theorem by_60 : byOf Try.prog 60 = some 16 := by kernel_rfl
theorem ag_60 : aggOf Try.prog 60 = some true := by kernel_rfl
theorem zc_60 : zcOf Try.prog 60 = some [.int .i64 0, .bool false] := by kernel_rfl
theorem sa_60 : isAggOf Try.prog 60 = true := by kernel_rfl
theorem pl_60 : plOf Try.prog 60 = some [(0, 1), (1, 1)] := by kernel_rfl
theorem fo_60_0 : foOf Try.prog 60 0 = some 0 := by kernel_rfl
theorem fi_60_0 : fiOf Try.prog 60 0 = some (0, 1, false) := by kernel_rfl
theorem fo_60_1 : foOf Try.prog 60 1 = some 1 := by kernel_rfl
theorem fi_60_1 : fiOf Try.prog 60 1 = some (1, 1, false) := by kernel_rfl
theorem sz_61 : szOf Try.prog 61 = some 2 := by kernel_rfl
theorem by_61 : byOf Try.prog 61 = some 16 := by kernel_rfl
theorem ag_61 : aggOf Try.prog 61 = some true := by kernel_rfl
theorem zc_61 : zcOf Try.prog 61 = some [.int .i64 0, .bool false] := by kernel_rfl
theorem sa_61 : isAggOf Try.prog 61 = true := by kernel_rfl
theorem pl_61 : plOf Try.prog 61 = some [(0, 1), (1, 1)] := by kernel_rfl
theorem fo_61_0 : foOf Try.prog 61 0 = some 0 := by kernel_rfl
theorem fi_61_0 : fiOf Try.prog 61 0 = some (0, 1, false) := by kernel_rfl
theorem fo_61_1 : foOf Try.prog 61 1 = some 1 := by kernel_rfl
theorem fi_61_1 : fiOf Try.prog 61 1 = some (1, 1, false) := by kernel_rfl
theorem sz_62 : szOf Try.prog 62 = some 1 := by kernel_rfl
theorem by_62 : byOf Try.prog 62 = some 8 := by kernel_rfl
theorem ag_62 : aggOf Try.prog 62 = some false := by kernel_rfl
theorem zc_62 : zcOf Try.prog 62 = some [.nilFunc] := by kernel_rfl
theorem sz_63 : szOf Try.prog 63 = some 1 := by kernel_rfl
theorem by_63 : byOf Try.prog 63 = some 8 := by kernel_rfl
theorem ag_63 : aggOf Try.prog 63 = some false := by kernel_rfl
theorem zc_63 : zcOf Try.prog 63 = some [.nilFunc] := by kernel_rfl
theorem sz_64 : szOf Try.prog 64 = some 1 := by kernel_rfl
theorem by_64 : byOf Try.prog 64 = some 24 := by kernel_rfl
theorem ag_64 : aggOf Try.prog 64 = some false := by kernel_rfl
theorem zc_64 : zcOf Try.prog 64 = some [.slice none 0 0] := by kernel_rfl
theorem sz_65 : szOf Try.prog 65 = some 1 := by kernel_rfl
theorem by_65 : byOf Try.prog 65 = some 8 := by kernel_rfl
theorem ag_65 : aggOf Try.prog 65 = some false := by kernel_rfl
theorem zc_65 : zcOf Try.prog 65 = some [.nilFunc] := by kernel_rfl
theorem sz_66 : szOf Try.prog 66 = some 1 := by kernel_rfl
theorem by_66 : byOf Try.prog 66 = some 24 := by kernel_rfl
theorem ag_66 : aggOf Try.prog 66 = some false := by kernel_rfl
theorem zc_66 : zcOf Try.prog 66 = some [.slice none 0 0] := by kernel_rfl
theorem sz_68 : szOf Try.prog 68 = some 1 := by kernel_rfl
theorem by_68 : byOf Try.prog 68 = some 8 := by kernel_rfl
theorem ag_68 : aggOf Try.prog 68 = some false := by kernel_rfl
theorem zc_68 : zcOf Try.prog 68 = some [.nilFunc] := by kernel_rfl
theorem sz_69 : szOf Try.prog 69 = some 1 := by kernel_rfl
theorem by_69 : byOf Try.prog 69 = some 8 := by kernel_rfl
theorem ag_69 : aggOf Try.prog 69 = some false := by kernel_rfl
theorem zc_69 : zcOf Try.prog 69 = some [.nilFunc] := by kernel_rfl
theorem sz_71 : szOf Try.prog 71 = some 1 := by kernel_rfl
theorem by_71 : byOf Try.prog 71 = some 8 := by kernel_rfl
theorem ag_71 : aggOf Try.prog 71 = some false := by kernel_rfl
theorem zc_71 : zcOf Try.prog 71 = some [.nilFunc] := by kernel_rfl
theorem sz_72 : szOf Try.prog 72 = some 1 := by kernel_rfl
theorem by_72 : byOf Try.prog 72 = some 24 := by kernel_rfl
theorem ag_72 : aggOf Try.prog 72 = some false := by kernel_rfl
theorem zc_72 : zcOf Try.prog 72 = some [.slice none 0 0] := by kernel_rfl
theorem sz_73 : szOf Try.prog 73 = some 5 := by kernel_rfl
theorem by_73 : byOf Try.prog 73 = some 40 := by kernel_rfl
theorem ag_73 : aggOf Try.prog 73 = some true := by kernel_rfl
theorem zc_73 : zcOf Try.prog 73 = some [.int .i64 0, .int .i64 0, .int .i64 0, .int .i64 0, .int .i64 0] := by kernel_rfl
theorem sa_73 : isAggOf Try.prog 73 = true := by kernel_rfl
theorem pl_73 : plOf Try.prog 73 = some [(0, 1), (1, 1), (2, 1), (3, 1), (4, 1)] := by kernel_rfl
theorem fo_73_0 : foOf Try.prog 73 0 = some 0 := by kernel_rfl
theorem fi_73_0 : fiOf Try.prog 73 0 = some (0, 1, false) := by kernel_rfl
theorem fo_73_1 : foOf Try.prog 73 1 = some 1 := by kernel_rfl
theorem fi_73_1 : fiOf Try.prog 73 1 = some (1, 1, false) := by kernel_rfl
theorem fo_73_2 : foOf Try.prog 73 2 = some 2 := by kernel_rfl
theorem fi_73_2 : fiOf Try.prog 73 2 = some (2, 1, false) := by kernel_rfl
theorem fo_73_3 : foOf Try.prog 73 3 = some 3 := by kernel_rfl
theorem fi_73_3 : fiOf Try.prog 73 3 = some (3, 1, false) := by kernel_rfl
theorem fo_73_4 : foOf Try.prog 73 4 = some 4 := by kernel_rfl
theorem fi_73_4 : fiOf Try.prog 73 4 = some (4, 1, false) := by kernel_rfl
theorem sz_74 : szOf Try.prog 74 = some 5 := by kernel_rfl
theorem by_74 : byOf Try.prog 74 = some 40 := by kernel_rfl
theorem ag_74 : aggOf Try.prog 74 = some true := by kernel_rfl
theorem zc_74 : zcOf Try.prog 74 = some [.int .i64 0, .int .i64 0, .int .i64 0, .int .i64 0, .int .i64 0] := by kernel_rfl
theorem sa_74 : isAggOf Try.prog 74 = true := by kernel_rfl
theorem pl_74 : plOf Try.prog 74 = some [(0, 1), (1, 1), (2, 1), (3, 1), (4, 1)] := by kernel_rfl
theorem fo_74_0 : foOf Try.prog 74 0 = some 0 := by kernel_rfl
theorem fi_74_0 : fiOf Try.prog 74 0 = some (0, 1, false) := by kernel_rfl
theorem fo_74_1 : foOf Try.prog 74 1 = some 1 := by kernel_rfl
theorem fi_74_1 : fiOf Try.prog 74 1 = some (1, 1, false) := by kernel_rfl
theorem fo_74_2 : foOf Try.prog 74 2 = some 2 := by kernel_rfl
theorem fi_74_2 : fiOf Try.prog 74 2 = some (2, 1, false) := by kernel_rfl
theorem fo_74_3 : foOf Try.prog 74 3 = some 3 := by kernel_rfl
theorem fi_74_3 : fiOf Try.prog 74 3 = some (3, 1, false) := by kernel_rfl
theorem fo_74_4 : foOf Try.prog 74 4 = some 4 := by kernel_rfl
theorem fi_74_4 : fiOf Try.prog 74 4 = some (4, 1, false) := by kernel_rfl
theorem sz_75 : szOf Try.prog 75 = some 1 := by kernel_rfl
theorem by_75 : byOf Try.prog 75 = some 8 := by kernel_rfl
theorem ag_75 : aggOf Try.prog 75 = some false := by kernel_rfl
theorem zc_75 : zcOf Try.prog 75 = some [.nilFunc] := by kernel_rfl
theorem sz_76 : szOf Try.prog 76 = some 1 := by kernel_rfl
theorem by_76 : byOf Try.prog 76 = some 8 := by kernel_rfl
theorem ag_76 : aggOf Try.prog 76 = some false := by kernel_rfl
theorem zc_76 : zcOf Try.prog 76 = some [.pointer none] := by kernel_rfl
theorem sz_77 : szOf Try.prog 77 = some 1 := by kernel_rfl
theorem by_77 : byOf Try.prog 77 = some 8 := by kernel_rfl
theorem ag_77 : aggOf Try.prog 77 = some false := by kernel_rfl
theorem zc_77 : zcOf Try.prog 77 = some [.nilFunc] := by kernel_rfl
theorem sz_78 : szOf Try.prog 78 = some 1 := by kernel_rfl
theorem by_78 : byOf Try.prog 78 = some 8 := by kernel_rfl
theorem ag_78 : aggOf Try.prog 78 = some false := by kernel_rfl
theorem zc_78 : zcOf Try.prog 78 = some [.nilFunc] := by kernel_rfl
theorem sz_79 : szOf Try.prog 79 = some 1 := by kernel_rfl
theorem by_79 : byOf Try.prog 79 = some 8 := by kernel_rfl
theorem ag_79 : aggOf Try.prog 79 = some false := by kernel_rfl
theorem zc_79 : zcOf Try.prog 79 = some [.nilFunc] := by kernel_rfl
theorem sz_80 : szOf Try.prog 80 = some 1 := by kernel_rfl
theorem by_80 : byOf Try.prog 80 = some 8 := by kernel_rfl
theorem ag_80 : aggOf Try.prog 80 = some false := by kernel_rfl
theorem zc_80 : zcOf Try.prog 80 = some [.nilFunc] := by kernel_rfl
theorem sz_81 : szOf Try.prog 81 = some 3 := by kernel_rfl
theorem by_81 : byOf Try.prog 81 = some 24 := by kernel_rfl
theorem ag_81 : aggOf Try.prog 81 = some true := by kernel_rfl
theorem zc_81 : zcOf Try.prog 81 = some [.pointer none, .int .i64 0, .int .i64 0] := by kernel_rfl
theorem sa_81 : isAggOf Try.prog 81 = true := by kernel_rfl
theorem pl_81 : plOf Try.prog 81 = some [(0, 1), (1, 1), (2, 1)] := by kernel_rfl
theorem fo_81_0 : foOf Try.prog 81 0 = some 0 := by kernel_rfl
theorem fi_81_0 : fiOf Try.prog 81 0 = some (0, 1, false) := by kernel_rfl
theorem fo_81_1 : foOf Try.prog 81 1 = some 1 := by kernel_rfl
theorem fi_81_1 : fiOf Try.prog 81 1 = some (1, 1, false) := by kernel_rfl
theorem fo_81_2 : foOf Try.prog 81 2 = some 2 := by kernel_rfl
theorem fi_81_2 : fiOf Try.prog 81 2 = some (2, 1, false) := by kernel_rfl
theorem sz_82 : szOf Try.prog 82 = some 3 := by kernel_rfl
theorem by_82 : byOf Try.prog 82 = some 24 := by kernel_rfl
theorem ag_82 : aggOf Try.prog 82 = some true := by kernel_rfl
theorem zc_82 : zcOf Try.prog 82 = some [.pointer none, .int .i64 0, .int .i64 0] := by kernel_rfl
theorem sa_82 : isAggOf Try.prog 82 = true := by kernel_rfl
theorem pl_82 : plOf Try.prog 82 = some [(0, 1), (1, 1), (2, 1)] := by kernel_rfl
theorem fo_82_0 : foOf Try.prog 82 0 = some 0 := by kernel_rfl
theorem fi_82_0 : fiOf Try.prog 82 0 = some (0, 1, false) := by kernel_rfl
theorem fo_82_1 : foOf Try.prog 82 1 = some 1 := by kernel_rfl
theorem fi_82_1 : fiOf Try.prog 82 1 = some (1, 1, false) := by kernel_rfl
theorem fo_82_2 : foOf Try.prog 82 2 = some 2 := by kernel_rfl
theorem fi_82_2 : fiOf Try.prog 82 2 = some (2, 1, false) := by kernel_rfl
theorem sz_83 : szOf Try.prog 83 = some 1 := by kernel_rfl
theorem by_83 : byOf Try.prog 83 = some 8 := by kernel_rfl
theorem ag_83 : aggOf Try.prog 83 = some false := by kernel_rfl
theorem zc_83 : zcOf Try.prog 83 = some [.nilFunc] := by kernel_rfl
theorem sz_84 : szOf Try.prog 84 = some 1 := by kernel_rfl
theorem by_84 : byOf Try.prog 84 = some 8 := by kernel_rfl
theorem ag_84 : aggOf Try.prog 84 = some false := by kernel_rfl
theorem zc_84 : zcOf Try.prog 84 = some [.nilFunc] := by kernel_rfl
theorem sz_85 : szOf Try.prog 85 = some 1 := by kernel_rfl
theorem by_85 : byOf Try.prog 85 = some 8 := by kernel_rfl
theorem ag_85 : aggOf Try.prog 85 = some false := by kernel_rfl
theorem zc_85 : zcOf Try.prog 85 = some [.nilFunc] := by kernel_rfl
theorem sz_86 : szOf Try.prog 86 = some 1 := by kernel_rfl
theorem by_86 : byOf Try.prog 86 = some 8 := by kernel_rfl
theorem ag_86 : aggOf Try.prog 86 = some false := by kernel_rfl
theorem zc_86 : zcOf Try.prog 86 = some [.pointer none] := by kernel_rfl
theorem sz_87 : szOf Try.prog 87 = some 1 := by kernel_rfl
theorem by_87 : byOf Try.prog 87 = some 24 := by kernel_rfl
theorem ag_87 : aggOf Try.prog 87 = some false := by kernel_rfl
theorem zc_87 : zcOf Try.prog 87 = some [.slice none 0 0] := by kernel_rfl
theorem sz_89 : szOf Try.prog 89 = some 1 := by kernel_rfl
theorem by_89 : byOf Try.prog 89 = some 8 := by kernel_rfl
theorem ag_89 : aggOf Try.prog 89 = some false := by kernel_rfl
theorem zc_89 : zcOf Try.prog 89 = some [.nilFunc] := by kernel_rfl
theorem sz_90 : szOf Try.prog 90 = some 1 := by kernel_rfl
theorem by_90 : byOf Try.prog 90 = some 24 := by kernel_rfl
theorem ag_90 : aggOf Try.prog 90 = some false := by kernel_rfl
theorem zc_90 : zcOf Try.prog 90 = some [.slice none 0 0] := by kernel_rfl
theorem sz_91 : szOf Try.prog 91 = some 1 := by kernel_rfl
theorem by_91 : byOf Try.prog 91 = some 24 := by kernel_rfl
theorem ag_91 : aggOf Try.prog 91 = some false := by kernel_rfl
theorem zc_91 : zcOf Try.prog 91 = some [.slice none 0 0] := by kernel_rfl
theorem sz_92 : szOf Try.prog 92 = some 3 := by kernel_rfl
theorem by_92 : byOf Try.prog 92 = some 40 := by kernel_rfl
theorem ag_92 : aggOf Try.prog 92 = some true := by kernel_rfl
theorem zc_92 : zcOf Try.prog 92 = some [.int .i64 0, .int .i64 0, .slice none 0 0] := by kernel_rfl
theorem sa_92 : isAggOf Try.prog 92 = true := by kernel_rfl
theorem pl_92 : plOf Try.prog 92 = some [(0, 2), (2, 1)] := by kernel_rfl
theorem fo_92_0 : foOf Try.prog 92 0 = some 0 := by kernel_rfl
theorem fi_92_0 : fiOf Try.prog 92 0 = some (0, 2, true) := by kernel_rfl
theorem fo_92_1 : foOf Try.prog 92 1 = some 2 := by kernel_rfl
theorem fi_92_1 : fiOf Try.prog 92 1 = some (2, 1, false) := by kernel_rfl
theorem sz_93 : szOf Try.prog 93 = some 3 := by kernel_rfl
theorem by_93 : byOf Try.prog 93 = some 40 := by kernel_rfl
theorem ag_93 : aggOf Try.prog 93 = some true := by kernel_rfl
theorem zc_93 : zcOf Try.prog 93 = some [.int .i64 0, .int .i64 0, .slice none 0 0] := by kernel_rfl
theorem sa_93 : isAggOf Try.prog 93 = true := by kernel_rfl
theorem pl_93 : plOf Try.prog 93 = some [(0, 2), (2, 1)] := by kernel_rfl
theorem fo_93_0 : foOf Try.prog 93 0 = some 0 := by kernel_rfl
theorem fi_93_0 : fiOf Try.prog 93 0 = some (0, 2, true) := by kernel_rfl
theorem fo_93_1 : foOf Try.prog 93 1 = some 2 := by kernel_rfl
theorem fi_93_1 : fiOf Try.prog 93 1 = some (2, 1, false) := by kernel_rfl
theorem sz_95 : szOf Try.prog 95 = some 1 := by kernel_rfl
theorem by_95 : byOf Try.prog 95 = some 8 := by kernel_rfl
theorem ag_95 : aggOf Try.prog 95 = some false := by kernel_rfl
theorem zc_95 : zcOf Try.prog 95 = some [.nilFunc] := by kernel_rfl
theorem sz_96 : szOf Try.prog 96 = some 1 := by kernel_rfl
theorem by_96 : byOf Try.prog 96 = some 8 := by kernel_rfl
theorem ag_96 : aggOf Try.prog 96 = some false := by kernel_rfl
theorem zc_96 : zcOf Try.prog 96 = some [.nilFunc] := by kernel_rfl
theorem sz_97 : szOf Try.prog 97 = some 1 := by kernel_rfl
theorem by_97 : byOf Try.prog 97 = some 8 := by kernel_rfl
theorem ag_97 : aggOf Try.prog 97 = some false := by kernel_rfl
theorem zc_97 : zcOf Try.prog 97 = some [.nilFunc] := by kernel_rfl
theorem sz_98 : szOf Try.prog 98 = some 1 := by kernel_rfl
theorem by_98 : byOf Try.prog 98 = some 8 := by kernel_rfl
theorem ag_98 : aggOf Try.prog 98 = some false := by kernel_rfl
theorem zc_98 : zcOf Try.prog 98 = some [.nilFunc] := by kernel_rfl
theorem sz_99 : szOf Try.prog 99 = some 1 := by kernel_rfl
theorem by_99 : byOf Try.prog 99 = some 8 := by kernel_rfl
theorem ag_99 : aggOf Try.prog 99 = some false := by kernel_rfl
theorem zc_99 : zcOf Try.prog 99 = some [.nilFunc] := by kernel_rfl
theorem sz_100 : szOf Try.prog 100 = some 3 := by kernel_rfl
theorem by_100 : byOf Try.prog 100 = some 72 := by kernel_rfl
theorem ag_100 : aggOf Try.prog 100 = some true := by kernel_rfl
theorem zc_100 : zcOf Try.prog 100 = some [.slice none 0 0, .slice none 0 0, .slice none 0 0] := by kernel_rfl
theorem sa_100 : isAggOf Try.prog 100 = true := by kernel_rfl
theorem pl_100 : plOf Try.prog 100 = some [(0, 1), (1, 1), (2, 1)] := by kernel_rfl
theorem fo_100_0 : foOf Try.prog 100 0 = some 0 := by kernel_rfl
theorem fi_100_0 : fiOf Try.prog 100 0 = some (0, 1, false) := by kernel_rfl
theorem fo_100_1 : foOf Try.prog 100 1 = some 1 := by kernel_rfl
theorem fi_100_1 : fiOf Try.prog 100 1 = some (1, 1, false) := by kernel_rfl
theorem fo_100_2 : foOf Try.prog 100 2 = some 2 := by kernel_rfl
theorem fi_100_2 : fiOf Try.prog 100 2 = some (2, 1, false) := by kernel_rfl
theorem sz_101 : szOf Try.prog 101 = some 3 := by kernel_rfl
theorem by_101 : byOf Try.prog 101 = some 72 := by kernel_rfl
theorem ag_101 : aggOf Try.prog 101 = some true := by kernel_rfl
theorem zc_101 : zcOf Try.prog 101 = some [.slice none 0 0, .slice none 0 0, .slice none 0 0] := by kernel_rfl
theorem sa_101 : isAggOf Try.prog 101 = true := by kernel_rfl
theorem pl_101 : plOf Try.prog 101 = some [(0, 1), (1, 1), (2, 1)] := by kernel_rfl
theorem fo_101_0 : foOf Try.prog 101 0 = some 0 := by kernel_rfl
theorem fi_101_0 : fiOf Try.prog 101 0 = some (0, 1, false) := by kernel_rfl
theorem fo_101_1 : foOf Try.prog 101 1 = some 1 := by kernel_rfl
theorem fi_101_1 : fiOf Try.prog 101 1 = some (1, 1, false) := by kernel_rfl
theorem fo_101_2 : foOf Try.prog 101 2 = some 2 := by kernel_rfl
theorem fi_101_2 : fiOf Try.prog 101 2 = some (2, 1, false) := by kernel_rfl
theorem sz_102 : szOf Try.prog 102 = some 1 := by kernel_rfl
theorem by_102 : byOf Try.prog 102 = some 8 := by kernel_rfl
theorem ag_102 : aggOf Try.prog 102 = some false := by kernel_rfl
theorem zc_102 : zcOf Try.prog 102 = some [.nilFunc] := by kernel_rfl
theorem sz_103 : szOf Try.prog 103 = some 1 := by kernel_rfl
theorem by_103 : byOf Try.prog 103 = some 8 := by kernel_rfl
theorem ag_103 : aggOf Try.prog 103 = some false := by kernel_rfl
theorem zc_103 : zcOf Try.prog 103 = some [.nilFunc] := by kernel_rfl
theorem sz_104 : szOf Try.prog 104 = some 1 := by kernel_rfl
theorem by_104 : byOf Try.prog 104 = some 8 := by kernel_rfl
theorem ag_104 : aggOf Try.prog 104 = some false := by kernel_rfl
theorem zc_104 : zcOf Try.prog 104 = some [.nilFunc] := by kernel_rfl
theorem sz_105 : szOf Try.prog 105 = some 1 := by kernel_rfl
theorem by_105 : byOf Try.prog 105 = some 8 := by kernel_rfl
theorem ag_105 : aggOf Try.prog 105 = some false := by kernel_rfl
theorem zc_105 : zcOf Try.prog 105 = some [.nilFunc] := by kernel_rfl
theorem sz_106 : szOf Try.prog 106 = some 1 := by kernel_rfl
theorem by_106 : byOf Try.prog 106 = some 8 := by kernel_rfl
theorem ag_106 : aggOf Try.prog 106 = some false := by kernel_rfl
theorem zc_106 : zcOf Try.prog 106 = some [.nilFunc] := by kernel_rfl
theorem sz_107 : szOf Try.prog 107 = some 1 := by kernel_rfl
theorem by_107 : byOf Try.prog 107 = some 8 := by kernel_rfl
theorem ag_107 : aggOf Try.prog 107 = some false := by kernel_rfl
theorem zc_107 : zcOf Try.prog 107 = some [.nilFunc] := by kernel_rfl
theorem sz_108 : szOf Try.prog 108 = some 1 := by kernel_rfl
theorem by_108 : byOf Try.prog 108 = some 8 := by kernel_rfl
theorem ag_108 : aggOf Try.prog 108 = some false := by kernel_rfl
theorem zc_108 : zcOf Try.prog 108 = some [.nilFunc] := by kernel_rfl
theorem sz_109 : szOf Try.prog 109 = some 1 := by kernel_rfl
theorem by_109 : byOf Try.prog 109 = some 8 := by kernel_rfl
theorem ag_109 : aggOf Try.prog 109 = some false := by kernel_rfl
theorem zc_109 : zcOf Try.prog 109 = some [.nilFunc] := by kernel_rfl
theorem sz_110 : szOf Try.prog 110 = some 51 := by kernel_rfl
theorem by_110 : byOf Try.prog 110 = some 408 := by kernel_rfl
theorem ag_110 : aggOf Try.prog 110 = some true := by kernel_rfl
theorem zc_110 : zcOf Try.prog 110 = some [.int .i64 0, .int .i64 0, .int .i64 0, .int .i64 0, .int .i64 0, .int .i64 0, .int .i64 0, .int .i64 0, .int .i64 0, .int .i64 0, .int .i64 0, .int .i64 0, .int .i64 0, .int .i64 0, .int .i64 0, .int .i64 0, .int .i64 0, .int .i64 0, .int .i64 0, .int .i64 0, .int .i64 0, .int .i64 0, .int .i64 0, .int .i64 0, .int .i64 0, .int .i64 0, .int .i64 0, .int .i64 0, .int .i64 0, .int .i64 0, .int .i64 0, .int .i64 0, .int .i64 0, .int .i64 0, .int .i64 0, .int .i64 0, .int .i64 0, .int .i64 0, .int .i64 0, .int .i64 0, .int .i64 0, .int .i64 0, .int .i64 0, .int .i64 0, .int .i64 0, .int .i64 0, .int .i64 0, .int .i64 0, .int .i64 0, .int .i64 0, .int .i64 0] := by kernel_rfl
theorem sa_110 : isAggOf Try.prog 110 = true := by kernel_rfl
theorem pl_110 : plOf Try.prog 110 = some [(0, 1), (1, 1), (2, 1), (3, 1), (4, 1), (5, 1), (6, 1), (7, 1), (8, 1), (9, 1), (10, 1), (11, 1), (12, 1), (13, 1), (14, 1), (15, 1), (16, 1), (17, 1), (18, 1), (19, 1), (20, 1), (21, 1), (22, 1), (23, 1), (24, 1), (25, 1), (26, 1), (27, 1), (28, 1), (29, 1), (30, 1), (31, 1), (32, 1), (33, 1), (34, 1), (35, 1), (36, 1), (37, 1), (38, 1), (39, 1), (40, 1), (41, 1), (42, 1), (43, 1), (44, 1), (45, 1), (46, 1), (47, 1), (48, 1), (49, 1), (50, 1)] := by kernel_rfl
theorem sz_111 : szOf Try.prog 111 = some 2601 := by kernel_rfl
theorem by_111 : byOf Try.prog 111 = some 20808 := by kernel_rfl
theorem ag_111 : aggOf Try.prog 111 = some true := by kernel_rfl
theorem sa_111 : isAggOf Try.prog 111 = true := by kernel_rfl
theorem pl_111 : plOf Try.prog 111 = some [(0, 51), (51, 51), (102, 51), (153, 51), (204, 51), (255, 51), (306, 51), (357, 51), (408, 51), (459, 51), (510, 51), (561, 51), (612, 51), (663, 51), (714, 51), (765, 51), (816, 51), (867, 51), (918, 51), (969, 51), (1020, 51), (1071, 51), (1122, 51), (1173, 51), (1224, 51), (1275, 51), (1326, 51), (1377, 51), (1428, 51), (1479, 51), (1530, 51), (1581, 51), (1632, 51), (1683, 51), (1734, 51), (1785, 51), (1836, 51), (1887, 51), (1938, 51), (1989, 51), (2040, 51), (2091, 51), (2142, 51), (2193, 51), (2244, 51), (2295, 51), (2346, 51), (2397, 51), (2448, 51), (2499, 51), (2550, 51)] := by kernel_rfl
theorem sz_112 : szOf Try.prog 112 = some 2601 := by kernel_rfl
theorem by_112 : byOf Try.prog 112 = some 20808 := by kernel_rfl
theorem ag_112 : aggOf Try.prog 112 = some true := by kernel_rfl
theorem sa_112 : isAggOf Try.prog 112 = true := by kernel_rfl
theorem pl_112 : plOf Try.prog 112 = some [(0, 51), (51, 51), (102, 51), (153, 51), (204, 51), (255, 51), (306, 51), (357, 51), (408, 51), (459, 51), (510, 51), (561, 51), (612, 51), (663, 51), (714, 51), (765, 51), (816, 51), (867, 51), (918, 51), (969, 51), (1020, 51), (1071, 51), (1122, 51), (1173, 51), (1224, 51), (1275, 51), (1326, 51), (1377, 51), (1428, 51), (1479, 51), (1530, 51), (1581, 51), (1632, 51), (1683, 51), (1734, 51), (1785, 51), (1836, 51), (1887, 51), (1938, 51), (1989, 51), (2040, 51), (2091, 51), (2142, 51), (2193, 51), (2244, 51), (2295, 51), (2346, 51), (2397, 51), (2448, 51), (2499, 51), (2550, 51)] := by kernel_rfl
theorem sz_113 : szOf Try.prog 113 = some 1 := by kernel_rfl
theorem by_113 : byOf Try.prog 113 = some 8 := by kernel_rfl
theorem ag_113 : aggOf Try.prog 113 = some false := by kernel_rfl
theorem zc_113 : zcOf Try.prog 113 = some [.nilFunc] := by kernel_rfl
theorem sz_114 : szOf Try.prog 114 = some 1 := by kernel_rfl
theorem by_114 : byOf Try.prog 114 = some 8 := by kernel_rfl
theorem ag_114 : aggOf Try.prog 114 = some false := by kernel_rfl
theorem zc_114 : zcOf Try.prog 114 = some [.nilFunc] := by kernel_rfl
theorem sz_116 : szOf Try.prog 116 = some 1 := by kernel_rfl
theorem by_116 : byOf Try.prog 116 = some 8 := by kernel_rfl
theorem ag_116 : aggOf Try.prog 116 = some false := by kernel_rfl
theorem zc_116 : zcOf Try.prog 116 = some [.nilFunc] := by kernel_rfl
theorem sz_117 : szOf Try.prog 117 = some 2 := by kernel_rfl
theorem by_117 : byOf Try.prog 117 = some 16 := by kernel_rfl
theorem ag_117 : aggOf Try.prog 117 = some true := by kernel_rfl
theorem zc_117 : zcOf Try.prog 117 = some [.int .i64 0, .int .i64 0] := by kernel_rfl
theorem sa_117 : isAggOf Try.prog 117 = true := by kernel_rfl
theorem pl_117 : plOf Try.prog 117 = some [(0, 1), (1, 1)] := by kernel_rfl
theorem sz_118 : szOf Try.prog 118 = some 1 := by kernel_rfl
theorem by_118 : byOf Try.prog 118 = some 8 := by kernel_rfl
theorem ag_118 : aggOf Try.prog 118 = some false := by kernel_rfl
theorem zc_118 : zcOf Try.prog 118 = some [.nilFunc] := by kernel_rfl
theorem sz_119 : szOf Try.prog 119 = some 1 := by kernel_rfl
theorem by_119 : byOf Try.prog 119 = some 8 := by kernel_rfl
theorem ag_119 : aggOf Try.prog 119 = some false := by kernel_rfl
theorem zc_119 : zcOf Try.prog 119 = some [.nilFunc] := by kernel_rfl
theorem sz_120 : szOf Try.prog 120 = some 1 := by kernel_rfl
theorem by_120 : byOf Try.prog 120 = some 8 := by kernel_rfl
theorem ag_120 : aggOf Try.prog 120 = some false := by kernel_rfl
theorem zc_120 : zcOf Try.prog 120 = some [.nilFunc] := by kernel_rfl
theorem sz_121 : szOf Try.prog 121 = some 1 := by kernel_rfl
theorem by_121 : byOf Try.prog 121 = some 8 := by kernel_rfl
theorem ag_121 : aggOf Try.prog 121 = some false := by kernel_rfl
theorem zc_121 : zcOf Try.prog 121 = some [.nilFunc] := by kernel_rfl
theorem sz_122 : szOf Try.prog 122 = some 1 := by kernel_rfl
theorem by_122 : byOf Try.prog 122 = some 8 := by kernel_rfl
theorem ag_122 : aggOf Try.prog 122 = some false := by kernel_rfl
theorem zc_122 : zcOf Try.prog 122 = some [.int .u64 0] := by kernel_rfl
theorem sz_123 : szOf Try.prog 123 = some 1 := by kernel_rfl
theorem by_123 : byOf Try.prog 123 = some 8 := by kernel_rfl
theorem ag_123 : aggOf Try.prog 123 = some false := by kernel_rfl
theorem zc_123 : zcOf Try.prog 123 = some [.nilFunc] := by kernel_rfl
theorem sz_124 : szOf Try.prog 124 = some 1 := by kernel_rfl
theorem by_124 : byOf Try.prog 124 = some 8 := by kernel_rfl
theorem ag_124 : aggOf Try.prog 124 = some false := by kernel_rfl
theorem zc_124 : zcOf Try.prog 124 = some [.nilFunc] := by kernel_rfl
theorem sz_125 : szOf Try.prog 125 = some 1 := by kernel_rfl
theorem by_125 : byOf Try.prog 125 = some 8 := by kernel_rfl
theorem ag_125 : aggOf Try.prog 125 = some false := by kernel_rfl
theorem zc_125 : zcOf Try.prog 125 = some [.nilFunc] := by kernel_rfl
theorem sz_126 : szOf Try.prog 126 = some 1 := by kernel_rfl
theorem by_126 : byOf Try.prog 126 = some 8 := by kernel_rfl
theorem ag_126 : aggOf Try.prog 126 = some false := by kernel_rfl
theorem zc_126 : zcOf Try.prog 126 = some [.nilFunc] := by kernel_rfl
theorem sz_127 : szOf Try.prog 127 = some 4 := by kernel_rfl
theorem by_127 : byOf Try.prog 127 = some 40 := by kernel_rfl
theorem ag_127 : aggOf Try.prog 127 = some true := by kernel_rfl
theorem zc_127 : zcOf Try.prog 127 = some [.pointer none, .pointer none, .pointer none, .string .empty] := by kernel_rfl
theorem sa_127 : isAggOf Try.prog 127 = true := by kernel_rfl
theorem pl_127 : plOf Try.prog 127 = some [(0, 1), (1, 1), (2, 1), (3, 1)] := by kernel_rfl
theorem fo_127_0 : foOf Try.prog 127 0 = some 0 := by kernel_rfl
theorem fi_127_0 : fiOf Try.prog 127 0 = some (0, 1, false) := by kernel_rfl
theorem fo_127_1 : foOf Try.prog 127 1 = some 1 := by kernel_rfl
theorem fi_127_1 : fiOf Try.prog 127 1 = some (1, 1, false) := by kernel_rfl
theorem fo_127_2 : foOf Try.prog 127 2 = some 2 := by kernel_rfl
theorem fi_127_2 : fiOf Try.prog 127 2 = some (2, 1, false) := by kernel_rfl
theorem fo_127_3 : foOf Try.prog 127 3 = some 3 := by kernel_rfl
theorem fi_127_3 : fiOf Try.prog 127 3 = some (3, 1, false) := by kernel_rfl
theorem sz_128 : szOf Try.prog 128 = some 4 := by kernel_rfl
theorem by_128 : byOf Try.prog 128 = some 40 := by kernel_rfl
theorem ag_128 : aggOf Try.prog 128 = some true := by kernel_rfl
theorem zc_128 : zcOf Try.prog 128 = some [.pointer none, .pointer none, .pointer none, .string .empty] := by kernel_rfl
theorem sa_128 : isAggOf Try.prog 128 = true := by kernel_rfl
theorem pl_128 : plOf Try.prog 128 = some [(0, 1), (1, 1), (2, 1), (3, 1)] := by kernel_rfl
theorem fo_128_0 : foOf Try.prog 128 0 = some 0 := by kernel_rfl
theorem fi_128_0 : fiOf Try.prog 128 0 = some (0, 1, false) := by kernel_rfl
theorem fo_128_1 : foOf Try.prog 128 1 = some 1 := by kernel_rfl
theorem fi_128_1 : fiOf Try.prog 128 1 = some (1, 1, false) := by kernel_rfl
theorem fo_128_2 : foOf Try.prog 128 2 = some 2 := by kernel_rfl
theorem fi_128_2 : fiOf Try.prog 128 2 = some (2, 1, false) := by kernel_rfl
theorem fo_128_3 : foOf Try.prog 128 3 = some 3 := by kernel_rfl
theorem fi_128_3 : fiOf Try.prog 128 3 = some (3, 1, false) := by kernel_rfl
theorem sz_129 : szOf Try.prog 129 = some 0 := by kernel_rfl
theorem by_129 : byOf Try.prog 129 = some 0 := by kernel_rfl
theorem ag_129 : aggOf Try.prog 129 = some true := by kernel_rfl
theorem zc_129 : zcOf Try.prog 129 = some [] := by kernel_rfl
theorem sa_129 : isAggOf Try.prog 129 = true := by kernel_rfl
theorem pl_129 : plOf Try.prog 129 = some [] := by kernel_rfl
theorem sz_130 : szOf Try.prog 130 = some 0 := by kernel_rfl
theorem by_130 : byOf Try.prog 130 = some 0 := by kernel_rfl
theorem ag_130 : aggOf Try.prog 130 = some true := by kernel_rfl
theorem zc_130 : zcOf Try.prog 130 = some [] := by kernel_rfl
theorem sa_130 : isAggOf Try.prog 130 = true := by kernel_rfl
theorem pl_130 : plOf Try.prog 130 = some [(0, 0)] := by kernel_rfl
theorem fi_130_0 : fiOf Try.prog 130 0 = some (0, 0, true) := by kernel_rfl
theorem sz_131 : szOf Try.prog 131 = some 0 := by kernel_rfl
theorem by_131 : byOf Try.prog 131 = some 0 := by kernel_rfl
theorem ag_131 : aggOf Try.prog 131 = some true := by kernel_rfl
theorem zc_131 : zcOf Try.prog 131 = some [] := by kernel_rfl
theorem sa_131 : isAggOf Try.prog 131 = true := by kernel_rfl
theorem pl_131 : plOf Try.prog 131 = some [(0, 0)] := by kernel_rfl
theorem fi_131_0 : fiOf Try.prog 131 0 = some (0, 0, true) := by kernel_rfl
theorem sz_132 : szOf Try.prog 132 = some 1 := by kernel_rfl
theorem by_132 : byOf Try.prog 132 = some 8 := by kernel_rfl
theorem ag_132 : aggOf Try.prog 132 = some false := by kernel_rfl
theorem zc_132 : zcOf Try.prog 132 = some [.nilFunc] := by kernel_rfl
theorem sz_133 : szOf Try.prog 133 = some 1 := by kernel_rfl
theorem by_133 : byOf Try.prog 133 = some 4 := by kernel_rfl
theorem ag_133 : aggOf Try.prog 133 = some false := by kernel_rfl
theorem zc_133 : zcOf Try.prog 133 = some [.int .u32 0] := by kernel_rfl
theorem sz_134 : szOf Try.prog 134 = some 1 := by kernel_rfl
theorem by_134 : byOf Try.prog 134 = some 1 := by kernel_rfl
theorem ag_134 : aggOf Try.prog 134 = some false := by kernel_rfl
theorem zc_134 : zcOf Try.prog 134 = some [.int .u8 0] := by kernel_rfl
theorem sz_135 : szOf Try.prog 135 = some 1 := by kernel_rfl
theorem by_135 : byOf Try.prog 135 = some 1 := by kernel_rfl
theorem ag_135 : aggOf Try.prog 135 = some false := by kernel_rfl
theorem zc_135 : zcOf Try.prog 135 = some [.int .u8 0] := by kernel_rfl
theorem sz_136 : szOf Try.prog 136 = some 1 := by kernel_rfl
theorem by_136 : byOf Try.prog 136 = some 8 := by kernel_rfl
theorem ag_136 : aggOf Try.prog 136 = some false := by kernel_rfl
theorem zc_136 : zcOf Try.prog 136 = some [.nilFunc] := by kernel_rfl
theorem sz_137 : szOf Try.prog 137 = some 1 := by kernel_rfl
theorem by_137 : byOf Try.prog 137 = some 8 := by kernel_rfl
theorem ag_137 : aggOf Try.prog 137 = some false := by kernel_rfl
theorem zc_137 : zcOf Try.prog 137 = some [.pointer none] := by kernel_rfl
theorem sz_138 : szOf Try.prog 138 = some 1 := by kernel_rfl
theorem by_138 : byOf Try.prog 138 = some 4 := by kernel_rfl
theorem ag_138 : aggOf Try.prog 138 = some false := by kernel_rfl
theorem zc_138 : zcOf Try.prog 138 = some [.int .i32 0] := by kernel_rfl
theorem sz_139 : szOf Try.prog 139 = some 1 := by kernel_rfl
theorem by_139 : byOf Try.prog 139 = some 4 := by kernel_rfl
theorem ag_139 : aggOf Try.prog 139 = some false := by kernel_rfl
theorem zc_139 : zcOf Try.prog 139 = some [.int .i32 0] := by kernel_rfl
theorem sz_140 : szOf Try.prog 140 = some 11 := by kernel_rfl
theorem by_140 : byOf Try.prog 140 = some 48 := by kernel_rfl
theorem ag_140 : aggOf Try.prog 140 = some true := by kernel_rfl
theorem zc_140 : zcOf Try.prog 140 = some [.int .u64 0, .int .u64 0, .int .u32 0, .int .u8 0, .int .u8 0, .int .u8 0, .int .u8 0, .nilFunc, .pointer none, .int .i32 0, .int .i32 0] := by kernel_rfl
theorem sa_140 : isAggOf Try.prog 140 = true := by kernel_rfl
theorem pl_140 : plOf Try.prog 140 = some [(0, 1), (1, 1), (2, 1), (3, 1), (4, 1), (5, 1), (6, 1), (7, 1), (8, 1), (9, 1), (10, 1)] := by kernel_rfl
theorem fo_140_0 : foOf Try.prog 140 0 = some 0 := by kernel_rfl
theorem fi_140_0 : fiOf Try.prog 140 0 = some (0, 1, false) := by kernel_rfl
theorem fo_140_1 : foOf Try.prog 140 1 = some 1 := by kernel_rfl
theorem fi_140_1 : fiOf Try.prog 140 1 = some (1, 1, false) := by kernel_rfl
theorem fo_140_2 : foOf Try.prog 140 2 = some 2 := by kernel_rfl
theorem fi_140_2 : fiOf Try.prog 140 2 = some (2, 1, false) := by kernel_rfl
theorem fo_140_3 : foOf Try.prog 140 3 = some 3 := by kernel_rfl
theorem fi_140_3 : fiOf Try.prog 140 3 = some (3, 1, false) := by kernel_rfl
theorem fo_140_4 : foOf Try.prog 140 4 = some 4 := by kernel_rfl
theorem fi_140_4 : fiOf Try.prog 140 4 = some (4, 1, false) := by kernel_rfl
theorem fo_140_5 : foOf Try.prog 140 5 = some 5 := by kernel_rfl
theorem fi_140_5 : fiOf Try.prog 140 5 = some (5, 1, false) := by kernel_rfl
theorem fo_140_6 : foOf Try.prog 140 6 = some 6 := by kernel_rfl
theorem fi_140_6 : fiOf Try.prog 140 6 = some (6, 1, false) := by kernel_rfl
theorem fo_140_7 : foOf Try.prog 140 7 = some 7 := by kernel_rfl
theorem fi_140_7 : fiOf Try.prog 140 7 = some (7, 1, false) := by kernel_rfl
theorem fo_140_8 : foOf Try.prog 140 8 = some 8 := by kernel_rfl
theorem fi_140_8 : fiOf Try.prog 140 8 = some (8, 1, false) := by kernel_rfl
theorem fo_140_9 : foOf Try.prog 140 9 = some 9 := by kernel_rfl
theorem fi_140_9 : fiOf Try.prog 140 9 = some (9, 1, false) := by kernel_rfl
theorem fo_140_10 : foOf Try.prog 140 10 = some 10 := by kernel_rfl
theorem fi_140_10 : fiOf Try.prog 140 10 = some (10, 1, false) := by kernel_rfl
theorem sz_141 : szOf Try.prog 141 = some 11 := by kernel_rfl
theorem by_141 : byOf Try.prog 141 = some 48 := by kernel_rfl
theorem ag_141 : aggOf Try.prog 141 = some true := by kernel_rfl
theorem zc_141 : zcOf Try.prog 141 = some [.int .u64 0, .int .u64 0, .int .u32 0, .int .u8 0, .int .u8 0, .int .u8 0, .int .u8 0, .nilFunc, .pointer none, .int .i32 0, .int .i32 0] := by kernel_rfl
theorem sa_141 : isAggOf Try.prog 141 = true := by kernel_rfl
theorem pl_141 : plOf Try.prog 141 = some [(0, 1), (1, 1), (2, 1), (3, 1), (4, 1), (5, 1), (6, 1), (7, 1), (8, 1), (9, 1), (10, 1)] := by kernel_rfl
theorem fo_141_0 : foOf Try.prog 141 0 = some 0 := by kernel_rfl
theorem fi_141_0 : fiOf Try.prog 141 0 = some (0, 1, false) := by kernel_rfl
theorem fo_141_1 : foOf Try.prog 141 1 = some 1 := by kernel_rfl
theorem fi_141_1 : fiOf Try.prog 141 1 = some (1, 1, false) := by kernel_rfl
theorem fo_141_2 : foOf Try.prog 141 2 = some 2 := by kernel_rfl
theorem fi_141_2 : fiOf Try.prog 141 2 = some (2, 1, false) := by kernel_rfl
theorem fo_141_3 : foOf Try.prog 141 3 = some 3 := by kernel_rfl
theorem fi_141_3 : fiOf Try.prog 141 3 = some (3, 1, false) := by kernel_rfl
theorem fo_141_4 : foOf Try.prog 141 4 = some 4 := by kernel_rfl
theorem fi_141_4 : fiOf Try.prog 141 4 = some (4, 1, false) := by kernel_rfl
theorem fo_141_5 : foOf Try.prog 141 5 = some 5 := by kernel_rfl
theorem fi_141_5 : fiOf Try.prog 141 5 = some (5, 1, false) := by kernel_rfl
theorem fo_141_6 : foOf Try.prog 141 6 = some 6 := by kernel_rfl
theorem fi_141_6 : fiOf Try.prog 141 6 = some (6, 1, false) := by kernel_rfl
theorem fo_141_7 : foOf Try.prog 141 7 = some 7 := by kernel_rfl
theorem fi_141_7 : fiOf Try.prog 141 7 = some (7, 1, false) := by kernel_rfl
theorem fo_141_8 : foOf Try.prog 141 8 = some 8 := by kernel_rfl
theorem fi_141_8 : fiOf Try.prog 141 8 = some (8, 1, false) := by kernel_rfl
theorem fo_141_9 : foOf Try.prog 141 9 = some 9 := by kernel_rfl
theorem fi_141_9 : fiOf Try.prog 141 9 = some (9, 1, false) := by kernel_rfl
theorem fo_141_10 : foOf Try.prog 141 10 = some 10 := by kernel_rfl
theorem fi_141_10 : fiOf Try.prog 141 10 = some (10, 1, false) := by kernel_rfl
theorem sz_142 : szOf Try.prog 142 = some 1 := by kernel_rfl
theorem by_142 : byOf Try.prog 142 = some 8 := by kernel_rfl
theorem ag_142 : aggOf Try.prog 142 = some false := by kernel_rfl
theorem zc_142 : zcOf Try.prog 142 = some [.pointer none] := by kernel_rfl
theorem rn_2 : runs Try.prog 2 = true := by kernel_rfl
theorem rn_3 : runs Try.prog 3 = true := by kernel_rfl
theorem rn_4 : runs Try.prog 4 = true := by kernel_rfl
theorem rn_5 : runs Try.prog 5 = true := by kernel_rfl
theorem rn_6 : runs Try.prog 6 = true := by kernel_rfl
theorem rn_7 : runs Try.prog 7 = true := by kernel_rfl
theorem rn_8 : runs Try.prog 8 = true := by kernel_rfl
theorem rn_9 : runs Try.prog 9 = true := by kernel_rfl
theorem rn_10 : runs Try.prog 10 = true := by kernel_rfl
theorem rn_11 : runs Try.prog 11 = true := by kernel_rfl
theorem rn_12 : runs Try.prog 12 = true := by kernel_rfl
theorem rn_13 : runs Try.prog 13 = true := by kernel_rfl
theorem rn_14 : runs Try.prog 14 = true := by kernel_rfl
theorem rn_15 : runs Try.prog 15 = true := by kernel_rfl
theorem rn_16 : runs Try.prog 16 = true := by kernel_rfl
theorem rn_17 : runs Try.prog 17 = true := by kernel_rfl
theorem rn_18 : runs Try.prog 18 = true := by kernel_rfl
theorem rn_19 : runs Try.prog 19 = true := by kernel_rfl
theorem rn_20 : runs Try.prog 20 = true := by kernel_rfl
theorem rn_21 : runs Try.prog 21 = true := by kernel_rfl
theorem rn_22 : runs Try.prog 22 = true := by kernel_rfl
theorem rn_23 : runs Try.prog 23 = true := by kernel_rfl
theorem rn_24 : runs Try.prog 24 = true := by kernel_rfl
theorem rn_25 : runs Try.prog 25 = true := by kernel_rfl
theorem rn_26 : runs Try.prog 26 = true := by kernel_rfl
theorem rn_27 : runs Try.prog 27 = true := by kernel_rfl
theorem rn_28 : runs Try.prog 28 = true := by kernel_rfl
theorem rn_29 : runs Try.prog 29 = true := by kernel_rfl
theorem rn_30 : runs Try.prog 30 = true := by kernel_rfl
theorem rn_31 : runs Try.prog 31 = true := by kernel_rfl
theorem rn_32 : runs Try.prog 32 = true := by kernel_rfl
theorem rn_33 : runs Try.prog 33 = true := by kernel_rfl
theorem rn_34 : runs Try.prog 34 = true := by kernel_rfl
theorem rn_35 : runs Try.prog 35 = true := by kernel_rfl
theorem rn_36 : runs Try.prog 36 = true := by kernel_rfl
theorem rn_37 : runs Try.prog 37 = true := by kernel_rfl
theorem rn_38 : runs Try.prog 38 = true := by kernel_rfl
theorem rn_39 : runs Try.prog 39 = true := by kernel_rfl
theorem rn_40 : runs Try.prog 40 = true := by kernel_rfl
theorem rn_41 : runs Try.prog 41 = true := by kernel_rfl
theorem rn_42 : runs Try.prog 42 = true := by kernel_rfl
theorem rn_43 : runs Try.prog 43 = true := by kernel_rfl
theorem rn_44 : runs Try.prog 44 = true := by kernel_rfl
theorem rn_45 : runs Try.prog 45 = true := by kernel_rfl
theorem rn_46 : runs Try.prog 46 = true := by kernel_rfl
theorem rn_47 : runs Try.prog 47 = true := by kernel_rfl
theorem rn_48 : runs Try.prog 48 = true := by kernel_rfl
theorem rn_49 : runs Try.prog 49 = true := by kernel_rfl
theorem rn_50 : runs Try.prog 50 = true := by kernel_rfl
theorem rn_51 : runs Try.prog 51 = true := by kernel_rfl
theorem rn_52 : runs Try.prog 52 = true := by kernel_rfl
theorem rn_53 : runs Try.prog 53 = true := by kernel_rfl
theorem rn_54 : runs Try.prog 54 = true := by kernel_rfl
theorem rn_55 : runs Try.prog 55 = true := by kernel_rfl
theorem rn_56 : runs Try.prog 56 = true := by kernel_rfl
theorem rn_57 : runs Try.prog 57 = true := by kernel_rfl
theorem rn_58 : runs Try.prog 58 = true := by kernel_rfl
theorem rn_59 : runs Try.prog 59 = true := by kernel_rfl
theorem rn_60 : runs Try.prog 60 = true := by kernel_rfl
theorem rn_61 : runs Try.prog 61 = true := by kernel_rfl
theorem rn_62 : runs Try.prog 62 = true := by kernel_rfl
theorem rn_63 : runs Try.prog 63 = true := by kernel_rfl
theorem rn_64 : runs Try.prog 64 = true := by kernel_rfl
theorem rn_65 : runs Try.prog 65 = true := by kernel_rfl
theorem rn_66 : runs Try.prog 66 = true := by kernel_rfl
theorem rn_67 : runs Try.prog 67 = true := by kernel_rfl
theorem rn_68 : runs Try.prog 68 = true := by kernel_rfl
theorem rn_69 : runs Try.prog 69 = true := by kernel_rfl
theorem rn_70 : runs Try.prog 70 = true := by kernel_rfl
theorem rn_71 : runs Try.prog 71 = true := by kernel_rfl
theorem rn_72 : runs Try.prog 72 = true := by kernel_rfl
theorem hm : Try.prog.follows .mixedOrders = true := by kernel_rfl
end Go.Proofs.Ytfaggcmcfhljpaa
