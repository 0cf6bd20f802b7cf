/- Texts of this proof, one behind the other: Fa, TaS, TaT. -/
import Derived.Test.YtncleikbggjmjaaGreatDoorMt9
import Derived.Test.YtncleikbggjmjaaGreatDoorProg
import Derived.Test.YtncleikbggjmjaaGreatDoorMt11
/- The program's tables, asked once. -/
namespace Go.Proofs.YtncleikbggjmjaaGreatDoor
open Go.Sx Go.Proofs
theorem sz_2 : szOf Tryz.prog 2 = some 1 := by kernel_rfl
theorem by_2 : byOf Tryz.prog 2 = some 8 := by kernel_rfl
theorem ag_2 : aggOf Tryz.prog 2 = some false := by kernel_rfl
theorem zc_2 : zcOf Tryz.prog 2 = some [.int .i64 0] := by kernel_rfl
theorem sz_3 : szOf Tryz.prog 3 = some 1 := by kernel_rfl
theorem by_3 : byOf Tryz.prog 3 = some 8 := by kernel_rfl
theorem ag_3 : aggOf Tryz.prog 3 = some false := by kernel_rfl
theorem zc_3 : zcOf Tryz.prog 3 = some [.int .i64 0] := by kernel_rfl
theorem zv_3 : (Tryz.prog.info? 3).bind (·.zero) = some (.int .i64 0) := by kernel_rfl
theorem sz_4 : szOf Tryz.prog 4 = some 1 := by kernel_rfl
theorem by_4 : byOf Tryz.prog 4 = some 1 := by kernel_rfl
theorem ag_4 : aggOf Tryz.prog 4 = some false := by kernel_rfl
theorem zc_4 : zcOf Tryz.prog 4 = some [.bool false] := by kernel_rfl
theorem sz_5 : szOf Tryz.prog 5 = some 1 := by kernel_rfl
theorem ag_5 : aggOf Tryz.prog 5 = some false := by kernel_rfl
theorem ag_9 : aggOf Tryz.prog 9 = some false := by kernel_rfl
theorem zc_22 : zcOf Tryz.prog 22 = some [.int .i64 0, .int .i64 0, .int .i64 0, .int .i64 0] := by kernel_rfl
theorem sa_22 : isAggOf Tryz.prog 22 = true := by kernel_rfl
theorem pl_22 : plOf Tryz.prog 22 = some [(0, 1), (1, 1), (2, 1), (3, 1)] := by kernel_rfl
theorem sz_24 : szOf Tryz.prog 24 = some 13 := by kernel_rfl
theorem ag_24 : aggOf Tryz.prog 24 = some true := by kernel_rfl
theorem zc_24 : zcOf Tryz.prog 24 = some [.int .i64 0, .int .i64 0, .int .i64 0, .int .i64 0, .int .i64 0, .int .i64 0, .int .i64 0, .int .i64 0, .int .i64 0, .int .i64 0, .int .i64 0, .int .i64 0, .int .i64 0] := by kernel_rfl
theorem sa_24 : isAggOf Tryz.prog 24 = true := by kernel_rfl
theorem pl_24 : plOf Tryz.prog 24 = some [(0, 4), (4, 4), (8, 1), (9, 1), (10, 1), (11, 1), (12, 1)] := by kernel_rfl
theorem fo_24_0 : foOf Tryz.prog 24 0 = some 0 := by kernel_rfl
theorem fo_24_1 : foOf Tryz.prog 24 1 = some 4 := by kernel_rfl
theorem fo_24_2 : foOf Tryz.prog 24 2 = some 8 := by kernel_rfl
theorem fo_24_3 : foOf Tryz.prog 24 3 = some 9 := by kernel_rfl
theorem fo_24_4 : foOf Tryz.prog 24 4 = some 10 := by kernel_rfl
theorem fo_24_5 : foOf Tryz.prog 24 5 = some 11 := by kernel_rfl
theorem fo_24_6 : foOf Tryz.prog 24 6 = some 12 := by kernel_rfl
theorem sz_25 : szOf Tryz.prog 25 = some 1 := by kernel_rfl
theorem ag_25 : aggOf Tryz.prog 25 = some false := by kernel_rfl
theorem ag_29 : aggOf Tryz.prog 29 = some false := by kernel_rfl
theorem ag_30 : aggOf Tryz.prog 30 = some false := by kernel_rfl
theorem ag_34 : aggOf Tryz.prog 34 = some false := by kernel_rfl
theorem sz_38 : szOf Tryz.prog 38 = some 1 := by kernel_rfl
theorem ag_38 : aggOf Tryz.prog 38 = some false := by kernel_rfl
theorem zc_38 : zcOf Tryz.prog 38 = some [.slice none 0 0] := by kernel_rfl
theorem sz_42 : szOf Tryz.prog 42 = some 2 := by kernel_rfl
theorem by_42 : byOf Tryz.prog 42 = some 16 := by kernel_rfl
theorem zc_42 : zcOf Tryz.prog 42 = some [.int .i64 0, .int .i64 0] := by kernel_rfl
theorem sa_42 : isAggOf Tryz.prog 42 = true := by kernel_rfl
theorem pl_42 : plOf Tryz.prog 42 = some [(0, 1), (1, 1)] := by kernel_rfl
theorem fo_42_0 : foOf Tryz.prog 42 0 = some 0 := by kernel_rfl
theorem sz_43 : szOf Tryz.prog 43 = some 1 := by kernel_rfl
theorem ag_43 : aggOf Tryz.prog 43 = some false := by kernel_rfl
theorem zc_43 : zcOf Tryz.prog 43 = some [.slice none 0 0] := by kernel_rfl
theorem ag_45 : aggOf Tryz.prog 45 = some false := by kernel_rfl
theorem sz_47 : szOf Tryz.prog 47 = some 7 := by kernel_rfl
theorem by_47 : byOf Tryz.prog 47 = some 56 := by kernel_rfl
theorem ag_47 : aggOf Tryz.prog 47 = some true := by kernel_rfl
theorem zc_47 : zcOf Tryz.prog 47 = some [.int .i64 0, .int .i64 0, .int .i64 0, .int .i64 0, .int .i64 0, .int .i64 0, .bool false] := by kernel_rfl
theorem sa_47 : isAggOf Tryz.prog 47 = true := by kernel_rfl
theorem pl_47 : plOf Tryz.prog 47 = some [(0, 1), (1, 1), (2, 1), (3, 1), (4, 1), (5, 1), (6, 1)] := by kernel_rfl
theorem fo_47_0 : foOf Tryz.prog 47 0 = some 0 := by kernel_rfl
theorem fo_47_1 : foOf Tryz.prog 47 1 = some 1 := by kernel_rfl
theorem fo_47_2 : foOf Tryz.prog 47 2 = some 2 := by kernel_rfl
theorem sz_50 : szOf Tryz.prog 50 = some 2 := by kernel_rfl
theorem by_50 : byOf Tryz.prog 50 = some 16 := by kernel_rfl
theorem ag_50 : aggOf Tryz.prog 50 = some true := by kernel_rfl
theorem zc_50 : zcOf Tryz.prog 50 = some [.int .i64 0, .bool false] := by kernel_rfl
theorem sa_50 : isAggOf Tryz.prog 50 = true := by kernel_rfl
theorem pl_50 : plOf Tryz.prog 50 = some [(0, 1), (1, 1)] := by kernel_rfl
theorem fo_50_0 : foOf Tryz.prog 50 0 = some 0 := by kernel_rfl
theorem fo_50_1 : foOf Tryz.prog 50 1 = some 1 := by kernel_rfl
theorem sz_61 : szOf Tryz.prog 61 = some 9 := by kernel_rfl
theorem ag_61 : aggOf Tryz.prog 61 = some true := by kernel_rfl
theorem zc_61 : zcOf Tryz.prog 61 = some [.int .i64 0, .int .i64 0, .int .i64 0, .int .i64 0, .int .i64 0, .int .i64 0, .int .i64 0, .int .i64 0, .int .i64 0] := by kernel_rfl
theorem sa_61 : isAggOf Tryz.prog 61 = true := by kernel_rfl
theorem pl_61 : plOf Tryz.prog 61 = some [(0, 1), (1, 1), (2, 1), (3, 1), (4, 1), (5, 1), (6, 1), (7, 1), (8, 1)] := by kernel_rfl
theorem fo_61_0 : foOf Tryz.prog 61 0 = some 0 := by kernel_rfl
theorem fo_61_1 : foOf Tryz.prog 61 1 = some 1 := by kernel_rfl
theorem fo_61_2 : foOf Tryz.prog 61 2 = some 2 := by kernel_rfl
theorem fo_61_3 : foOf Tryz.prog 61 3 = some 3 := by kernel_rfl
theorem fo_61_4 : foOf Tryz.prog 61 4 = some 4 := by kernel_rfl
theorem fo_61_5 : foOf Tryz.prog 61 5 = some 5 := by kernel_rfl
theorem fo_61_6 : foOf Tryz.prog 61 6 = some 6 := by kernel_rfl
theorem fo_61_7 : foOf Tryz.prog 61 7 = some 7 := by kernel_rfl
theorem fo_61_8 : foOf Tryz.prog 61 8 = some 8 := by kernel_rfl
theorem zc_68 : zcOf Tryz.prog 68 = some [.int .i64 0, .int .i64 0] := by kernel_rfl
theorem sa_68 : isAggOf Tryz.prog 68 = true := by kernel_rfl
theorem pl_68 : plOf Tryz.prog 68 = some [(0, 1), (1, 1)] := by kernel_rfl
theorem sz_70 : szOf Tryz.prog 70 = some 13 := by kernel_rfl
theorem by_70 : byOf Tryz.prog 70 = some 104 := by kernel_rfl
theorem ag_70 : aggOf Tryz.prog 70 = some true := by kernel_rfl
theorem zc_70 : zcOf Tryz.prog 70 = some [.int .i64 0, .int .i64 0, .int .i64 0, .int .i64 0, .int .i64 0, .int .i64 0, .int .i64 0, .int .i64 0, .int .i64 0, .int .i64 0, .int .i64 0, .int .i64 0, .int .i64 0] := by kernel_rfl
theorem sa_70 : isAggOf Tryz.prog 70 = true := by kernel_rfl
theorem pl_70 : plOf Tryz.prog 70 = some [(0, 1), (1, 1), (2, 1), (3, 1), (4, 1), (5, 1), (6, 1), (7, 2), (9, 1), (10, 1), (11, 1), (12, 1)] := by kernel_rfl
theorem fo_70_0 : foOf Tryz.prog 70 0 = some 0 := by kernel_rfl
theorem fo_70_1 : foOf Tryz.prog 70 1 = some 1 := by kernel_rfl
theorem fo_70_2 : foOf Tryz.prog 70 2 = some 2 := by kernel_rfl
theorem fo_70_3 : foOf Tryz.prog 70 3 = some 3 := by kernel_rfl
theorem fo_70_4 : foOf Tryz.prog 70 4 = some 4 := by kernel_rfl
theorem fo_70_5 : foOf Tryz.prog 70 5 = some 5 := by kernel_rfl
theorem fo_70_6 : foOf Tryz.prog 70 6 = some 6 := by kernel_rfl
theorem fo_70_7 : foOf Tryz.prog 70 7 = some 7 := by kernel_rfl
theorem fo_70_8 : foOf Tryz.prog 70 8 = some 9 := by kernel_rfl
theorem fo_70_9 : foOf Tryz.prog 70 9 = some 10 := by kernel_rfl
theorem fo_70_10 : foOf Tryz.prog 70 10 = some 11 := by kernel_rfl
theorem fo_70_11 : foOf Tryz.prog 70 11 = some 12 := by kernel_rfl
theorem sz_71 : szOf Tryz.prog 71 = some 1 := by kernel_rfl
theorem ag_71 : aggOf Tryz.prog 71 = some false := by kernel_rfl
theorem sz_72 : szOf Tryz.prog 72 = some 1 := by kernel_rfl
theorem ag_72 : aggOf Tryz.prog 72 = some false := by kernel_rfl
theorem sz_73 : szOf Tryz.prog 73 = some 1 := by kernel_rfl
theorem ag_73 : aggOf Tryz.prog 73 = some false := by kernel_rfl
theorem zc_75 : zcOf Tryz.prog 75 = some [.bool false, .int .i64 0, .int .i64 0, .int .i64 0, .int .i64 0, .int .i64 0, .int .i64 0, .int .i64 0, .int .i64 0, .int .i64 0, .int .i64 0, .int .i64 0, .int .i64 0, .int .i64 0, .slice none 0 0, .slice none 0 0, .slice none 0 0, .slice none 0 0] := by kernel_rfl
theorem sa_75 : isAggOf Tryz.prog 75 = true := by kernel_rfl
theorem pl_75 : plOf Tryz.prog 75 = some [(0, 1), (1, 13), (14, 1), (15, 1), (16, 1), (17, 1)] := by kernel_rfl
theorem fo_75_0 : foOf Tryz.prog 75 0 = some 0 := by kernel_rfl
theorem fo_75_1 : foOf Tryz.prog 75 1 = some 1 := by kernel_rfl
theorem fo_75_2 : foOf Tryz.prog 75 2 = some 14 := by kernel_rfl
theorem fo_75_3 : foOf Tryz.prog 75 3 = some 15 := by kernel_rfl
theorem fo_75_4 : foOf Tryz.prog 75 4 = some 16 := by kernel_rfl
theorem fo_75_5 : foOf Tryz.prog 75 5 = some 17 := by kernel_rfl
theorem sz_76 : szOf Tryz.prog 76 = some 1 := by kernel_rfl
theorem by_76 : byOf Tryz.prog 76 = some 8 := by kernel_rfl
theorem ag_76 : aggOf Tryz.prog 76 = some false := by kernel_rfl
theorem zc_76 : zcOf Tryz.prog 76 = some [.pointer none] := by kernel_rfl
theorem sz_78 : szOf Tryz.prog 78 = some 7 := by kernel_rfl
theorem by_78 : byOf Tryz.prog 78 = some 56 := by kernel_rfl
theorem ag_78 : aggOf Tryz.prog 78 = some true := by kernel_rfl
theorem zc_78 : zcOf Tryz.prog 78 = some [.int .i64 0, .int .i64 0, .int .i64 0, .int .i64 0, .int .i64 0, .int .i64 0, .bool false] := by kernel_rfl
theorem sa_78 : isAggOf Tryz.prog 78 = true := by kernel_rfl
theorem pl_78 : plOf Tryz.prog 78 = some [(0, 1), (1, 1), (2, 1), (3, 1), (4, 1), (5, 1), (6, 1)] := by kernel_rfl
theorem fo_78_0 : foOf Tryz.prog 78 0 = some 0 := by kernel_rfl
theorem fo_78_1 : foOf Tryz.prog 78 1 = some 1 := by kernel_rfl
theorem fo_78_2 : foOf Tryz.prog 78 2 = some 2 := by kernel_rfl
theorem fo_78_3 : foOf Tryz.prog 78 3 = some 3 := by kernel_rfl
theorem fo_78_5 : foOf Tryz.prog 78 5 = some 5 := by kernel_rfl
theorem fo_78_6 : foOf Tryz.prog 78 6 = some 6 := by kernel_rfl
theorem ag_79 : aggOf Tryz.prog 79 = some false := by kernel_rfl
theorem zc_81 : zcOf Tryz.prog 81 = some [.int .i64 0, .int .i64 0, .int .i64 0, .int .i64 0, .int .i64 0, .int .i64 0, .bool false, .map none] := by kernel_rfl
theorem sa_81 : isAggOf Tryz.prog 81 = true := by kernel_rfl
theorem pl_81 : plOf Tryz.prog 81 = some [(0, 7), (7, 1)] := by kernel_rfl
theorem fo_81_0 : foOf Tryz.prog 81 0 = some 0 := by kernel_rfl
theorem fo_81_1 : foOf Tryz.prog 81 1 = some 7 := by kernel_rfl
theorem sz_82 : szOf Tryz.prog 82 = some 2 := by kernel_rfl
theorem sz_84 : szOf Tryz.prog 84 = some 0 := by kernel_rfl
theorem zc_84 : zcOf Tryz.prog 84 = some [] := by kernel_rfl
theorem sa_84 : isAggOf Tryz.prog 84 = true := by kernel_rfl
theorem pl_84 : plOf Tryz.prog 84 = some [] := by kernel_rfl
theorem ag_86 : aggOf Tryz.prog 86 = some false := by kernel_rfl
theorem sz_87 : szOf Tryz.prog 87 = some 1 := by kernel_rfl
theorem ag_87 : aggOf Tryz.prog 87 = some false := by kernel_rfl
theorem zc_87 : zcOf Tryz.prog 87 = some [.slice none 0 0] := by kernel_rfl
theorem zc_91 : zcOf Tryz.prog 91 = some [.int .i64 0, .int .i64 0] := by kernel_rfl
theorem sa_91 : isAggOf Tryz.prog 91 = true := by kernel_rfl
theorem pl_91 : plOf Tryz.prog 91 = some [(0, 1), (1, 1)] := by kernel_rfl
theorem fo_91_0 : foOf Tryz.prog 91 0 = some 0 := by kernel_rfl
theorem ag_93 : aggOf Tryz.prog 93 = some false := by kernel_rfl
theorem sz_95 : szOf Tryz.prog 95 = some 3 := by kernel_rfl
theorem by_95 : byOf Tryz.prog 95 = some 40 := by kernel_rfl
theorem ag_95 : aggOf Tryz.prog 95 = some true := by kernel_rfl
theorem zc_95 : zcOf Tryz.prog 95 = some [.int .i64 0, .int .i64 0, .slice none 0 0] := by kernel_rfl
theorem sa_95 : isAggOf Tryz.prog 95 = true := by kernel_rfl
theorem pl_95 : plOf Tryz.prog 95 = some [(0, 2), (2, 1)] := by kernel_rfl
theorem fo_95_0 : foOf Tryz.prog 95 0 = some 0 := by kernel_rfl
theorem fo_95_1 : foOf Tryz.prog 95 1 = some 2 := by kernel_rfl
theorem sz_104 : szOf Tryz.prog 104 = some 5 := by kernel_rfl
theorem ag_104 : aggOf Tryz.prog 104 = some true := by kernel_rfl
theorem zc_104 : zcOf Tryz.prog 104 = some [.int .i64 0, .int .i64 0, .int .i64 0, .int .i64 0, .int .i64 0] := by kernel_rfl
theorem sa_104 : isAggOf Tryz.prog 104 = true := by kernel_rfl
theorem pl_104 : plOf Tryz.prog 104 = some [(0, 1), (1, 1), (2, 1), (3, 1), (4, 1)] := by kernel_rfl
theorem fo_104_0 : foOf Tryz.prog 104 0 = some 0 := by kernel_rfl
theorem fo_104_1 : foOf Tryz.prog 104 1 = some 1 := by kernel_rfl
theorem fo_104_2 : foOf Tryz.prog 104 2 = some 2 := by kernel_rfl
theorem fo_104_3 : foOf Tryz.prog 104 3 = some 3 := by kernel_rfl
theorem fo_104_4 : foOf Tryz.prog 104 4 = some 4 := by kernel_rfl
theorem ag_106 : aggOf Tryz.prog 106 = some false := by kernel_rfl
theorem ag_109 : aggOf Tryz.prog 109 = some false := by kernel_rfl
theorem sz_113 : szOf Tryz.prog 113 = some 1 := by kernel_rfl
theorem ag_113 : aggOf Tryz.prog 113 = some true := by kernel_rfl
theorem zc_113 : zcOf Tryz.prog 113 = some [.slice none 0 0] := by kernel_rfl
theorem sa_113 : isAggOf Tryz.prog 113 = true := by kernel_rfl
theorem pl_113 : plOf Tryz.prog 113 = some [(0, 1)] := by kernel_rfl
theorem fo_113_0 : foOf Tryz.prog 113 0 = some 0 := by kernel_rfl
theorem sz_115 : szOf Tryz.prog 115 = some 2 := by kernel_rfl
theorem by_115 : byOf Tryz.prog 115 = some 16 := by kernel_rfl
theorem ag_115 : aggOf Tryz.prog 115 = some true := by kernel_rfl
theorem zc_115 : zcOf Tryz.prog 115 = some [.int .i64 0, .int .i64 0] := by kernel_rfl
theorem sa_115 : isAggOf Tryz.prog 115 = true := by kernel_rfl
theorem pl_115 : plOf Tryz.prog 115 = some [(0, 1), (1, 1)] := by kernel_rfl
theorem fo_115_0 : foOf Tryz.prog 115 0 = some 0 := by kernel_rfl
theorem fo_115_1 : foOf Tryz.prog 115 1 = some 1 := by kernel_rfl
theorem sz_118 : szOf Tryz.prog 118 = some 1 := by kernel_rfl
theorem ag_118 : aggOf Tryz.prog 118 = some false := by kernel_rfl
theorem sz_119 : szOf Tryz.prog 119 = some 7 := by kernel_rfl
theorem zc_119 : zcOf Tryz.prog 119 = some [.nilFunc, .nilFunc, .nilFunc, .nilFunc, .nilFunc, .nilFunc, .nilFunc] := by kernel_rfl
theorem sa_119 : isAggOf Tryz.prog 119 = true := by kernel_rfl
theorem pl_119 : plOf Tryz.prog 119 = some [(0, 1), (1, 1), (2, 1), (3, 1), (4, 1), (5, 1), (6, 1)] := by kernel_rfl
theorem sz_121 : szOf Tryz.prog 121 = some 2 := by kernel_rfl
theorem by_121 : byOf Tryz.prog 121 = some 16 := by kernel_rfl
theorem zc_121 : zcOf Tryz.prog 121 = some [.int .i64 0, .int .i64 0] := by kernel_rfl
theorem sa_121 : isAggOf Tryz.prog 121 = true := by kernel_rfl
theorem pl_121 : plOf Tryz.prog 121 = some [(0, 1), (1, 1)] := by kernel_rfl
theorem fo_121_0 : foOf Tryz.prog 121 0 = some 0 := by kernel_rfl
theorem fo_121_1 : foOf Tryz.prog 121 1 = some 1 := by kernel_rfl
theorem zc_127 : zcOf Tryz.prog 127 = some [.slice none 0 0, .slice none 0 0, .slice none 0 0] := by kernel_rfl
theorem sa_127 : isAggOf Tryz.prog 127 = true := by kernel_rfl
theorem pl_127 : plOf Tryz.prog 127 = some [(0, 1), (1, 1), (2, 1)] := by kernel_rfl
theorem fo_127_0 : foOf Tryz.prog 127 0 = some 0 := by kernel_rfl
theorem fo_127_1 : foOf Tryz.prog 127 1 = some 1 := by kernel_rfl
theorem fo_127_2 : foOf Tryz.prog 127 2 = some 2 := by kernel_rfl
theorem sz_138 : szOf Tryz.prog 138 = some 51 := by kernel_rfl
theorem sz_142 : szOf Tryz.prog 142 = some 3 := by kernel_rfl
theorem ag_142 : aggOf Tryz.prog 142 = some true := by kernel_rfl
theorem zc_142 : zcOf Tryz.prog 142 = some [.pointer none, .int .i64 0, .int .i64 0] := by kernel_rfl
theorem sa_142 : isAggOf Tryz.prog 142 = true := by kernel_rfl
theorem pl_142 : plOf Tryz.prog 142 = some [(0, 1), (1, 1), (2, 1)] := by kernel_rfl
theorem fo_142_0 : foOf Tryz.prog 142 0 = some 0 := by kernel_rfl
theorem fo_142_1 : foOf Tryz.prog 142 1 = some 1 := by kernel_rfl
theorem fo_142_2 : foOf Tryz.prog 142 2 = some 2 := by kernel_rfl
theorem zc_146 : zcOf Tryz.prog 146 = some [.int .i64 0, .int .i64 0, .int .i64 0, .int .i64 0] := by kernel_rfl
theorem sa_146 : isAggOf Tryz.prog 146 = true := by kernel_rfl
theorem pl_146 : plOf Tryz.prog 146 = some [(0, 1), (1, 1), (2, 1), (3, 1)] := by kernel_rfl
theorem sz_150 : szOf Tryz.prog 150 = some 6 := by kernel_rfl
theorem ag_150 : aggOf Tryz.prog 150 = some true := by kernel_rfl
theorem zc_150 : zcOf Tryz.prog 150 = some [.int .i64 0, .int .i64 0, .int .i64 0, .int .i64 0, .int .i64 0, .int .i64 0] := by kernel_rfl
theorem sa_150 : isAggOf Tryz.prog 150 = true := by kernel_rfl
theorem pl_150 : plOf Tryz.prog 150 = some [(0, 1), (1, 1), (2, 1), (3, 1), (4, 1), (5, 1)] := by kernel_rfl
theorem fo_150_0 : foOf Tryz.prog 150 0 = some 0 := by kernel_rfl
theorem fo_150_1 : foOf Tryz.prog 150 1 = some 1 := by kernel_rfl
theorem fo_150_2 : foOf Tryz.prog 150 2 = some 2 := by kernel_rfl
theorem fo_150_3 : foOf Tryz.prog 150 3 = some 3 := by kernel_rfl
theorem fo_150_4 : foOf Tryz.prog 150 4 = some 4 := by kernel_rfl
theorem fo_150_5 : foOf Tryz.prog 150 5 = some 5 := by kernel_rfl
theorem sz_154 : szOf Tryz.prog 154 = some 8 := by kernel_rfl
theorem ag_154 : aggOf Tryz.prog 154 = some true := by kernel_rfl
theorem zc_154 : zcOf Tryz.prog 154 = some [.string .empty, .int .i64 0, .int .i64 0, .int .i64 0, .int .i64 0, .int .i64 0, .int .i64 0, .int .i64 0] := by kernel_rfl
theorem sa_154 : isAggOf Tryz.prog 154 = true := by kernel_rfl
theorem pl_154 : plOf Tryz.prog 154 = some [(0, 1), (1, 1), (2, 1), (3, 1), (4, 1), (5, 1), (6, 1), (7, 1)] := by kernel_rfl
theorem fo_154_0 : foOf Tryz.prog 154 0 = some 0 := by kernel_rfl
theorem fo_154_1 : foOf Tryz.prog 154 1 = some 1 := by kernel_rfl
theorem fo_154_2 : foOf Tryz.prog 154 2 = some 2 := by kernel_rfl
theorem fo_154_3 : foOf Tryz.prog 154 3 = some 3 := by kernel_rfl
theorem fo_154_4 : foOf Tryz.prog 154 4 = some 4 := by kernel_rfl
theorem fo_154_5 : foOf Tryz.prog 154 5 = some 5 := by kernel_rfl
theorem fo_154_6 : foOf Tryz.prog 154 6 = some 6 := by kernel_rfl
theorem fo_154_7 : foOf Tryz.prog 154 7 = some 7 := by kernel_rfl
theorem sz_156 : szOf Tryz.prog 156 = some 3 := by kernel_rfl
theorem ag_156 : aggOf Tryz.prog 156 = some true := by kernel_rfl
theorem zc_156 : zcOf Tryz.prog 156 = some [.int .i64 0, .int .i64 0, .int .i64 0] := by kernel_rfl
theorem sa_156 : isAggOf Tryz.prog 156 = true := by kernel_rfl
theorem pl_156 : plOf Tryz.prog 156 = some [(0, 1), (1, 1), (2, 1)] := by kernel_rfl
theorem fo_156_0 : foOf Tryz.prog 156 0 = some 0 := by kernel_rfl
theorem fo_156_1 : foOf Tryz.prog 156 1 = some 1 := by kernel_rfl
theorem fo_156_2 : foOf Tryz.prog 156 2 = some 2 := by kernel_rfl
theorem sz_158 : szOf Tryz.prog 158 = some 3 := by kernel_rfl
theorem ag_158 : aggOf Tryz.prog 158 = some true := by kernel_rfl
theorem zc_158 : zcOf Tryz.prog 158 = some [.int .i64 0, .int .i64 0, .int .i64 0] := by kernel_rfl
theorem sa_158 : isAggOf Tryz.prog 158 = true := by kernel_rfl
theorem pl_158 : plOf Tryz.prog 158 = some [(0, 1), (1, 1), (2, 1)] := by kernel_rfl
theorem sz_161 : szOf Tryz.prog 161 = some 4 := by kernel_rfl
theorem by_161 : byOf Tryz.prog 161 = some 32 := by kernel_rfl
theorem zc_161 : zcOf Tryz.prog 161 = some [.int .i64 0, .int .i64 0, .int .i64 0, .int .i64 0] := by kernel_rfl
theorem sa_161 : isAggOf Tryz.prog 161 = true := by kernel_rfl
theorem pl_161 : plOf Tryz.prog 161 = some [(0, 1), (1, 1), (2, 1), (3, 1)] := by kernel_rfl
theorem fo_161_0 : foOf Tryz.prog 161 0 = some 0 := by kernel_rfl
theorem fo_161_1 : foOf Tryz.prog 161 1 = some 1 := by kernel_rfl
theorem fo_161_2 : foOf Tryz.prog 161 2 = some 2 := by kernel_rfl
theorem fo_161_3 : foOf Tryz.prog 161 3 = some 3 := by kernel_rfl
theorem sz_165 : szOf Tryz.prog 165 = some 3 := by kernel_rfl
theorem ag_165 : aggOf Tryz.prog 165 = some true := by kernel_rfl
theorem zc_165 : zcOf Tryz.prog 165 = some [.int .i64 0, .int .i64 0, .int .i64 0] := by kernel_rfl
theorem sa_165 : isAggOf Tryz.prog 165 = true := by kernel_rfl
theorem pl_165 : plOf Tryz.prog 165 = some [(0, 1), (1, 1), (2, 1)] := by kernel_rfl
theorem fo_165_0 : foOf Tryz.prog 165 0 = some 0 := by kernel_rfl
theorem fo_165_1 : foOf Tryz.prog 165 1 = some 1 := by kernel_rfl
theorem fo_165_2 : foOf Tryz.prog 165 2 = some 2 := by kernel_rfl
theorem ag_170 : aggOf Tryz.prog 170 = some false := by kernel_rfl
theorem ag_171 : aggOf Tryz.prog 171 = some false := by kernel_rfl
theorem ag_181 : aggOf Tryz.prog 181 = some false := by kernel_rfl
theorem ag_182 : aggOf Tryz.prog 182 = some false := by kernel_rfl
theorem ag_185 : aggOf Tryz.prog 185 = some false := by kernel_rfl
theorem sz_187 : szOf Tryz.prog 187 = some 2 := by kernel_rfl
theorem ag_187 : aggOf Tryz.prog 187 = some true := by kernel_rfl
theorem zc_187 : zcOf Tryz.prog 187 = some [.slice none 0 0, .slice none 0 0] := by kernel_rfl
theorem sa_187 : isAggOf Tryz.prog 187 = true := by kernel_rfl
theorem pl_187 : plOf Tryz.prog 187 = some [(0, 1), (1, 1)] := by kernel_rfl
theorem fo_187_0 : foOf Tryz.prog 187 0 = some 0 := by kernel_rfl
theorem fo_187_1 : foOf Tryz.prog 187 1 = some 1 := by kernel_rfl
theorem sz_195 : szOf Tryz.prog 195 = some 7 := by kernel_rfl
theorem ag_195 : aggOf Tryz.prog 195 = some true := by kernel_rfl
theorem zc_195 : zcOf Tryz.prog 195 = some [.int .i64 0, .int .i64 0, .int .i64 0, .int .i64 0, .int .i64 0, .int .i64 0, .int .i64 0] := by kernel_rfl
theorem sa_195 : isAggOf Tryz.prog 195 = true := by kernel_rfl
theorem pl_195 : plOf Tryz.prog 195 = some [(0, 1), (1, 1), (2, 1), (3, 1), (4, 1), (5, 1), (6, 1)] := by kernel_rfl
theorem fo_195_0 : foOf Tryz.prog 195 0 = some 0 := by kernel_rfl
theorem fo_195_1 : foOf Tryz.prog 195 1 = some 1 := by kernel_rfl
theorem fo_195_2 : foOf Tryz.prog 195 2 = some 2 := by kernel_rfl
theorem fo_195_3 : foOf Tryz.prog 195 3 = some 3 := by kernel_rfl
theorem fo_195_4 : foOf Tryz.prog 195 4 = some 4 := by kernel_rfl
theorem fo_195_5 : foOf Tryz.prog 195 5 = some 5 := by kernel_rfl
theorem fo_195_6 : foOf Tryz.prog 195 6 = some 6 := by kernel_rfl
theorem sz_198 : szOf Tryz.prog 198 = some 2 := by kernel_rfl
theorem by_198 : byOf Tryz.prog 198 = some 16 := by kernel_rfl
theorem ag_198 : aggOf Tryz.prog 198 = some true := by kernel_rfl
theorem zc_198 : zcOf Tryz.prog 198 = some [.int .i64 0, .int .i64 0] := by kernel_rfl
theorem sa_198 : isAggOf Tryz.prog 198 = true := by kernel_rfl
theorem pl_198 : plOf Tryz.prog 198 = some [(0, 1), (1, 1)] := by kernel_rfl
theorem fo_198_0 : foOf Tryz.prog 198 0 = some 0 := by kernel_rfl
theorem fo_198_1 : foOf Tryz.prog 198 1 = some 1 := by kernel_rfl
theorem ag_199 : aggOf Tryz.prog 199 = some false := by kernel_rfl
theorem sz_203 : szOf Tryz.prog 203 = some 3 := by kernel_rfl
theorem ag_203 : aggOf Tryz.prog 203 = some true := by kernel_rfl
theorem zc_203 : zcOf Tryz.prog 203 = some [.slice none 0 0, .slice none 0 0, .int .i64 0] := by kernel_rfl
theorem sa_203 : isAggOf Tryz.prog 203 = true := by kernel_rfl
theorem pl_203 : plOf Tryz.prog 203 = some [(0, 1), (1, 1), (2, 1)] := by kernel_rfl
theorem fo_203_0 : foOf Tryz.prog 203 0 = some 0 := by kernel_rfl
theorem fo_203_1 : foOf Tryz.prog 203 1 = some 1 := by kernel_rfl
theorem fo_203_2 : foOf Tryz.prog 203 2 = some 2 := by kernel_rfl
theorem sz_207 : szOf Tryz.prog 207 = some 2 := by kernel_rfl
theorem ag_207 : aggOf Tryz.prog 207 = some true := by kernel_rfl
theorem zc_207 : zcOf Tryz.prog 207 = some [.string .empty, .slice none 0 0] := by kernel_rfl
theorem sa_207 : isAggOf Tryz.prog 207 = true := by kernel_rfl
theorem pl_207 : plOf Tryz.prog 207 = some [(0, 1), (1, 1)] := by kernel_rfl
theorem fo_207_0 : foOf Tryz.prog 207 0 = some 0 := by kernel_rfl
theorem fo_207_1 : foOf Tryz.prog 207 1 = some 1 := by kernel_rfl
theorem ag_208 : aggOf Tryz.prog 208 = some false := by kernel_rfl
theorem sz_210 : szOf Tryz.prog 210 = some 7 := by kernel_rfl
theorem ag_210 : aggOf Tryz.prog 210 = some true := by kernel_rfl
theorem zc_210 : zcOf Tryz.prog 210 = some [.int .i64 0, .int .i64 0, .int .i64 0, .int .i64 0, .int .i64 0, .int .i64 0, .int .i64 0] := by kernel_rfl
theorem sa_210 : isAggOf Tryz.prog 210 = true := by kernel_rfl
theorem pl_210 : plOf Tryz.prog 210 = some [(0, 1), (1, 1), (2, 1), (3, 1), (4, 1), (5, 1), (6, 1)] := by kernel_rfl
theorem fo_210_0 : foOf Tryz.prog 210 0 = some 0 := by kernel_rfl
theorem fo_210_1 : foOf Tryz.prog 210 1 = some 1 := by kernel_rfl
theorem fo_210_2 : foOf Tryz.prog 210 2 = some 2 := by kernel_rfl
theorem fo_210_3 : foOf Tryz.prog 210 3 = some 3 := by kernel_rfl
theorem fo_210_4 : foOf Tryz.prog 210 4 = some 4 := by kernel_rfl
theorem fo_210_5 : foOf Tryz.prog 210 5 = some 5 := by kernel_rfl
theorem fo_210_6 : foOf Tryz.prog 210 6 = some 6 := by kernel_rfl
theorem ag_221 : aggOf Tryz.prog 221 = some true := by kernel_rfl
theorem zc_221 : zcOf Tryz.prog 221 = some [] := by kernel_rfl
theorem sa_221 : isAggOf Tryz.prog 221 = true := by kernel_rfl
theorem pl_221 : plOf Tryz.prog 221 = some [] := by kernel_rfl
theorem ag_222 : aggOf Tryz.prog 222 = some true := by kernel_rfl
theorem zc_222 : zcOf Tryz.prog 222 = some [] := by kernel_rfl
theorem sa_222 : isAggOf Tryz.prog 222 = true := by kernel_rfl
theorem pl_222 : plOf Tryz.prog 222 = some [] := by kernel_rfl
theorem zc_230 : zcOf Tryz.prog 230 = some [.int .i64 0, .int .i64 0, .int .i64 0, .int .i64 0, .int .i64 0, .int .i64 0, .slice none 0 0, .int .i64 0] := by kernel_rfl
theorem sa_230 : isAggOf Tryz.prog 230 = true := by kernel_rfl
theorem pl_230 : plOf Tryz.prog 230 = some [(0, 6), (6, 1), (7, 1)] := by kernel_rfl
theorem fo_230_0 : foOf Tryz.prog 230 0 = some 0 := by kernel_rfl
theorem fo_230_1 : foOf Tryz.prog 230 1 = some 6 := by kernel_rfl
theorem fo_230_2 : foOf Tryz.prog 230 2 = some 7 := by kernel_rfl
theorem sz_231 : szOf Tryz.prog 231 = some 1 := by kernel_rfl
theorem ag_231 : aggOf Tryz.prog 231 = some false := by kernel_rfl
theorem zc_231 : zcOf Tryz.prog 231 = some [.slice none 0 0] := by kernel_rfl
theorem sz_233 : szOf Tryz.prog 233 = some 2 := by kernel_rfl
theorem by_233 : byOf Tryz.prog 233 = some 16 := by kernel_rfl
theorem ag_233 : aggOf Tryz.prog 233 = some true := by kernel_rfl
theorem zc_233 : zcOf Tryz.prog 233 = some [.int .i64 0, .int .i64 0] := by kernel_rfl
theorem sa_233 : isAggOf Tryz.prog 233 = true := by kernel_rfl
theorem pl_233 : plOf Tryz.prog 233 = some [(0, 1), (1, 1)] := by kernel_rfl
theorem sz_235 : szOf Tryz.prog 235 = some 5 := by kernel_rfl
theorem by_235 : byOf Tryz.prog 235 = some 40 := by kernel_rfl
theorem ag_235 : aggOf Tryz.prog 235 = some true := by kernel_rfl
theorem zc_235 : zcOf Tryz.prog 235 = some [.int .i64 0, .int .i64 0, .int .i64 0, .int .i64 0, .int .i64 0] := by kernel_rfl
theorem sa_235 : isAggOf Tryz.prog 235 = true := by kernel_rfl
theorem pl_235 : plOf Tryz.prog 235 = some [(0, 2), (2, 1), (3, 1), (4, 1)] := by kernel_rfl
theorem fo_235_0 : foOf Tryz.prog 235 0 = some 0 := by kernel_rfl
theorem fo_235_1 : foOf Tryz.prog 235 1 = some 2 := by kernel_rfl
theorem fo_235_2 : foOf Tryz.prog 235 2 = some 3 := by kernel_rfl
theorem fo_235_3 : foOf Tryz.prog 235 3 = some 4 := by kernel_rfl
theorem zc_246 : zcOf Tryz.prog 246 = some [.string .empty, .int .i64 0, .int .i64 0, .int .i64 0, .int .i64 0, .int .i64 0, .int .i64 0, .int .i64 0, .slice none 0 0] := by kernel_rfl
theorem sa_246 : isAggOf Tryz.prog 246 = true := by kernel_rfl
theorem pl_246 : plOf Tryz.prog 246 = some [(0, 8), (8, 1)] := by kernel_rfl
theorem fo_246_0 : foOf Tryz.prog 246 0 = some 0 := by kernel_rfl
theorem sz_250 : szOf Tryz.prog 250 = some 1 := by kernel_rfl
theorem ag_250 : aggOf Tryz.prog 250 = some false := by kernel_rfl
theorem zc_250 : zcOf Tryz.prog 250 = some [.pointer none] := by kernel_rfl
theorem sz_262 : szOf Tryz.prog 262 = some 1 := by kernel_rfl
theorem ag_262 : aggOf Tryz.prog 262 = some false := by kernel_rfl
theorem zc_264 : zcOf Tryz.prog 264 = some [.slice none 0 0, .slice none 0 0, .int .i64 0] := by kernel_rfl
theorem sa_264 : isAggOf Tryz.prog 264 = true := by kernel_rfl
theorem pl_264 : plOf Tryz.prog 264 = some [(0, 1), (1, 1), (2, 1)] := by kernel_rfl
theorem fo_264_0 : foOf Tryz.prog 264 0 = some 0 := by kernel_rfl
theorem fo_264_1 : foOf Tryz.prog 264 1 = some 1 := by kernel_rfl
theorem fo_264_2 : foOf Tryz.prog 264 2 = some 2 := by kernel_rfl
theorem sz_266 : szOf Tryz.prog 266 = some 10 := by kernel_rfl
theorem by_266 : byOf Tryz.prog 266 = some 80 := by kernel_rfl
theorem ag_266 : aggOf Tryz.prog 266 = some true := by kernel_rfl
theorem zc_266 : zcOf Tryz.prog 266 = some [.int .i64 0, .int .i64 0, .int .i64 0, .int .i64 0, .int .i64 0, .int .i64 0, .int .i64 0, .int .i64 0, .int .i64 0, .int .i64 0] := by kernel_rfl
theorem sa_266 : isAggOf Tryz.prog 266 = true := by kernel_rfl
theorem pl_266 : plOf Tryz.prog 266 = some [(0, 7), (7, 1), (8, 1), (9, 1)] := by kernel_rfl
theorem fo_266_0 : foOf Tryz.prog 266 0 = some 0 := by kernel_rfl
theorem fo_266_2 : foOf Tryz.prog 266 2 = some 8 := by kernel_rfl
theorem fo_266_3 : foOf Tryz.prog 266 3 = some 9 := by kernel_rfl
theorem zc_271 : zcOf Tryz.prog 271 = some [.int .i64 0, .int .i64 0] := by kernel_rfl
theorem sa_271 : isAggOf Tryz.prog 271 = true := by kernel_rfl
theorem pl_271 : plOf Tryz.prog 271 = some [(0, 1), (1, 1)] := by kernel_rfl
theorem zc_274 : zcOf Tryz.prog 274 = some [.int .i64 0, .int .i64 0, .int .i64 0, .int .i64 0, .int .i64 0, .int .i64 0, .int .i64 0, .int .i64 0, .int .i64 0, .int .i64 0, .int .i64 0, .int .i64 0, .int .i64 0, .int .i64 0, .int .i64 0, .int .i64 0, .int .i64 0, .int .i64 0, .int .i64 0, .int .i64 0, .int .i64 0] := by kernel_rfl
theorem sa_274 : isAggOf Tryz.prog 274 = true := by kernel_rfl
theorem pl_274 : plOf Tryz.prog 274 = some [(0, 3), (3, 3), (6, 3), (9, 3), (12, 3), (15, 3), (18, 3)] := by kernel_rfl
theorem zc_277 : zcOf Tryz.prog 277 = some [.int .i64 0, .int .i64 0, .int .i64 0, .int .i64 0, .int .i64 0, .int .i64 0, .int .i64 0, .slice none 0 0, .int .i64 0, .int .i64 0] := by kernel_rfl
theorem sa_277 : isAggOf Tryz.prog 277 = true := by kernel_rfl
theorem pl_277 : plOf Tryz.prog 277 = some [(0, 7), (7, 1), (8, 1), (9, 1)] := by kernel_rfl
theorem fo_277_0 : foOf Tryz.prog 277 0 = some 0 := by kernel_rfl
theorem fo_277_1 : foOf Tryz.prog 277 1 = some 7 := by kernel_rfl
theorem fo_277_2 : foOf Tryz.prog 277 2 = some 8 := by kernel_rfl
theorem fo_277_3 : foOf Tryz.prog 277 3 = some 9 := by kernel_rfl
theorem sz_282 : szOf Tryz.prog 282 = some 1 := by kernel_rfl
theorem ag_282 : aggOf Tryz.prog 282 = some false := by kernel_rfl
theorem sz_284 : szOf Tryz.prog 284 = some 3 := by kernel_rfl
theorem ag_284 : aggOf Tryz.prog 284 = some true := by kernel_rfl
theorem zc_284 : zcOf Tryz.prog 284 = some [.pointer none, .pointer none, .pointer none] := by kernel_rfl
theorem sa_284 : isAggOf Tryz.prog 284 = true := by kernel_rfl
theorem pl_284 : plOf Tryz.prog 284 = some [(0, 1), (1, 1), (2, 1)] := by kernel_rfl
theorem fo_284_0 : foOf Tryz.prog 284 0 = some 0 := by kernel_rfl
theorem fo_284_1 : foOf Tryz.prog 284 1 = some 1 := by kernel_rfl
theorem fo_284_2 : foOf Tryz.prog 284 2 = some 2 := by kernel_rfl
theorem sz_294 : szOf Tryz.prog 294 = some 2 := by kernel_rfl
theorem ag_294 : aggOf Tryz.prog 294 = some true := by kernel_rfl
theorem zc_294 : zcOf Tryz.prog 294 = some [.int .i64 0, .int .i64 0] := by kernel_rfl
theorem sa_294 : isAggOf Tryz.prog 294 = true := by kernel_rfl
theorem pl_294 : plOf Tryz.prog 294 = some [(0, 1), (1, 1)] := by kernel_rfl
theorem fo_294_0 : foOf Tryz.prog 294 0 = some 0 := by kernel_rfl
theorem fo_294_1 : foOf Tryz.prog 294 1 = some 1 := by kernel_rfl
theorem sz_300 : szOf Tryz.prog 300 = some 1 := by kernel_rfl
theorem ag_300 : aggOf Tryz.prog 300 = some false := by kernel_rfl
theorem sz_302 : szOf Tryz.prog 302 = some 6 := by kernel_rfl
theorem zc_302 : zcOf Tryz.prog 302 = some [.nilFunc, .nilFunc, .nilFunc, .nilFunc, .nilFunc, .nilFunc] := by kernel_rfl
theorem sa_302 : isAggOf Tryz.prog 302 = true := by kernel_rfl
theorem pl_302 : plOf Tryz.prog 302 = some [(0, 1), (1, 1), (2, 1), (3, 1), (4, 1), (5, 1)] := by kernel_rfl
theorem sz_304 : szOf Tryz.prog 304 = some 1 := by kernel_rfl
theorem ag_304 : aggOf Tryz.prog 304 = some false := by kernel_rfl
theorem zc_304 : zcOf Tryz.prog 304 = some [.pointer none] := by kernel_rfl
theorem fo_307_0 : foOf Tryz.prog 307 0 = some 0 := by kernel_rfl
theorem fo_307_1 : foOf Tryz.prog 307 1 = some 8 := by kernel_rfl
theorem zc_309 : zcOf Tryz.prog 309 = some [.int .i64 0, .int .i64 0, .int .i64 0, .int .i64 0, .int .i64 0, .int .i64 0, .int .i64 0, .int .i64 0, .int .i64 0, .int .i64 0, .int .i64 0, .int .i64 0, .int .i64 0, .int .i64 0, .int .i64 0, .int .i64 0, .int .i64 0, .int .i64 0, .slice none 0 0, .slice none 0 0, .int .i64 0] := by kernel_rfl
theorem sa_309 : isAggOf Tryz.prog 309 = true := by kernel_rfl
theorem pl_309 : plOf Tryz.prog 309 = some [(0, 9), (9, 9), (18, 3)] := by kernel_rfl
theorem fo_309_0 : foOf Tryz.prog 309 0 = some 0 := by kernel_rfl
theorem fo_309_1 : foOf Tryz.prog 309 1 = some 9 := by kernel_rfl
theorem fo_309_2 : foOf Tryz.prog 309 2 = some 18 := by kernel_rfl
theorem rn_4 : runs Tryz.prog 4 = true := by kernel_rfl
theorem rn_5 : runs Tryz.prog 5 = true := by kernel_rfl
theorem rn_6 : runs Tryz.prog 6 = true := by kernel_rfl
theorem rn_7 : runs Tryz.prog 7 = true := by kernel_rfl
theorem rn_8 : runs Tryz.prog 8 = true := by kernel_rfl
theorem rn_9 : runs Tryz.prog 9 = true := by kernel_rfl
theorem rn_10 : runs Tryz.prog 10 = true := by kernel_rfl
theorem rn_11 : runs Tryz.prog 11 = true := by kernel_rfl
theorem rn_12 : runs Tryz.prog 12 = true := by kernel_rfl
theorem rn_13 : runs Tryz.prog 13 = true := by kernel_rfl
theorem rn_14 : runs Tryz.prog 14 = true := by kernel_rfl
theorem rn_15 : runs Tryz.prog 15 = true := by kernel_rfl
theorem rn_16 : runs Tryz.prog 16 = true := by kernel_rfl
theorem rn_17 : runs Tryz.prog 17 = true := by kernel_rfl
theorem rn_18 : runs Tryz.prog 18 = true := by kernel_rfl
theorem rn_19 : runs Tryz.prog 19 = true := by kernel_rfl
theorem rn_20 : runs Tryz.prog 20 = true := by kernel_rfl
theorem rn_21 : runs Tryz.prog 21 = true := by kernel_rfl
theorem rn_22 : runs Tryz.prog 22 = true := by kernel_rfl
theorem rn_23 : runs Tryz.prog 23 = true := by kernel_rfl
theorem rn_24 : runs Tryz.prog 24 = true := by kernel_rfl
theorem rn_25 : runs Tryz.prog 25 = true := by kernel_rfl
theorem rn_26 : runs Tryz.prog 26 = true := by kernel_rfl
theorem rn_27 : runs Tryz.prog 27 = true := by kernel_rfl
theorem rn_28 : runs Tryz.prog 28 = true := by kernel_rfl
theorem rn_29 : runs Tryz.prog 29 = true := by kernel_rfl
theorem rn_30 : runs Tryz.prog 30 = true := by kernel_rfl
theorem rn_31 : runs Tryz.prog 31 = true := by kernel_rfl
theorem rn_32 : runs Tryz.prog 32 = true := by kernel_rfl
theorem rn_33 : runs Tryz.prog 33 = true := by kernel_rfl
theorem rn_34 : runs Tryz.prog 34 = true := by kernel_rfl
theorem rn_35 : runs Tryz.prog 35 = true := by kernel_rfl
theorem rn_36 : runs Tryz.prog 36 = true := by kernel_rfl
theorem rn_37 : runs Tryz.prog 37 = true := by kernel_rfl
theorem rn_38 : runs Tryz.prog 38 = true := by kernel_rfl
theorem rn_39 : runs Tryz.prog 39 = true := by kernel_rfl
theorem rn_40 : runs Tryz.prog 40 = true := by kernel_rfl
theorem rn_41 : runs Tryz.prog 41 = true := by kernel_rfl
theorem rn_42 : runs Tryz.prog 42 = true := by kernel_rfl
theorem rn_43 : runs Tryz.prog 43 = true := by kernel_rfl
theorem rn_44 : runs Tryz.prog 44 = true := by kernel_rfl
theorem rn_45 : runs Tryz.prog 45 = true := by kernel_rfl
theorem rn_46 : runs Tryz.prog 46 = true := by kernel_rfl
theorem rn_47 : runs Tryz.prog 47 = true := by kernel_rfl
theorem rn_48 : runs Tryz.prog 48 = true := by kernel_rfl
theorem rn_49 : runs Tryz.prog 49 = true := by kernel_rfl
theorem rn_50 : runs Tryz.prog 50 = true := by kernel_rfl
theorem rn_51 : runs Tryz.prog 51 = true := by kernel_rfl
theorem rn_52 : runs Tryz.prog 52 = true := by kernel_rfl
theorem rn_53 : runs Tryz.prog 53 = true := by kernel_rfl
theorem rn_54 : runs Tryz.prog 54 = true := by kernel_rfl
theorem rn_55 : runs Tryz.prog 55 = true := by kernel_rfl
theorem rn_56 : runs Tryz.prog 56 = true := by kernel_rfl
theorem rn_57 : runs Tryz.prog 57 = true := by kernel_rfl
theorem rn_58 : runs Tryz.prog 58 = true := by kernel_rfl
theorem rn_59 : runs Tryz.prog 59 = true := by kernel_rfl
theorem rn_60 : runs Tryz.prog 60 = true := by kernel_rfl
theorem rn_61 : runs Tryz.prog 61 = true := by kernel_rfl
theorem rn_62 : runs Tryz.prog 62 = true := by kernel_rfl
theorem rn_63 : runs Tryz.prog 63 = true := by kernel_rfl
theorem rn_64 : runs Tryz.prog 64 = true := by kernel_rfl
theorem rn_65 : runs Tryz.prog 65 = true := by kernel_rfl
theorem rn_66 : runs Tryz.prog 66 = true := by kernel_rfl
theorem rn_67 : runs Tryz.prog 67 = true := by kernel_rfl
theorem rn_68 : runs Tryz.prog 68 = true := by kernel_rfl
theorem rn_69 : runs Tryz.prog 69 = true := by kernel_rfl
theorem rn_70 : runs Tryz.prog 70 = true := by kernel_rfl
theorem rn_71 : runs Tryz.prog 71 = true := by kernel_rfl
theorem rn_72 : runs Tryz.prog 72 = true := by kernel_rfl
theorem rn_73 : runs Tryz.prog 73 = true := by kernel_rfl
theorem rn_74 : runs Tryz.prog 74 = true := by kernel_rfl
theorem rn_75 : runs Tryz.prog 75 = true := by kernel_rfl
theorem rn_76 : runs Tryz.prog 76 = true := by kernel_rfl
theorem rn_77 : runs Tryz.prog 77 = true := by kernel_rfl
theorem rn_78 : runs Tryz.prog 78 = true := by kernel_rfl
theorem rn_79 : runs Tryz.prog 79 = true := by kernel_rfl
theorem rn_80 : runs Tryz.prog 80 = true := by kernel_rfl
theorem rn_81 : runs Tryz.prog 81 = true := by kernel_rfl
theorem rn_82 : runs Tryz.prog 82 = true := by kernel_rfl
theorem rn_83 : runs Tryz.prog 83 = true := by kernel_rfl
theorem rn_84 : runs Tryz.prog 84 = true := by kernel_rfl
theorem rn_85 : runs Tryz.prog 85 = true := by kernel_rfl
theorem rn_86 : runs Tryz.prog 86 = true := by kernel_rfl
theorem rn_87 : runs Tryz.prog 87 = true := by kernel_rfl
theorem rn_88 : runs Tryz.prog 88 = true := by kernel_rfl
theorem rn_89 : runs Tryz.prog 89 = true := by kernel_rfl
theorem rn_90 : runs Tryz.prog 90 = true := by kernel_rfl
theorem rn_91 : runs Tryz.prog 91 = true := by kernel_rfl
theorem rn_92 : runs Tryz.prog 92 = true := by kernel_rfl
theorem rn_93 : runs Tryz.prog 93 = true := by kernel_rfl
theorem rn_94 : runs Tryz.prog 94 = true := by kernel_rfl
theorem rn_95 : runs Tryz.prog 95 = true := by kernel_rfl
theorem rn_96 : runs Tryz.prog 96 = true := by kernel_rfl
theorem rn_97 : runs Tryz.prog 97 = true := by kernel_rfl
theorem rn_98 : runs Tryz.prog 98 = true := by kernel_rfl
theorem rn_99 : runs Tryz.prog 99 = true := by kernel_rfl
theorem rn_100 : runs Tryz.prog 100 = true := by kernel_rfl
theorem rn_102 : runs Tryz.prog 102 = true := by kernel_rfl
theorem rn_103 : runs Tryz.prog 103 = true := by kernel_rfl
theorem rn_104 : runs Tryz.prog 104 = true := by kernel_rfl
theorem rn_105 : runs Tryz.prog 105 = true := by kernel_rfl
theorem rn_106 : runs Tryz.prog 106 = true := by kernel_rfl
theorem rn_107 : runs Tryz.prog 107 = true := by kernel_rfl
theorem rn_108 : runs Tryz.prog 108 = true := by kernel_rfl
theorem rn_109 : runs Tryz.prog 109 = true := by kernel_rfl
theorem rn_110 : runs Tryz.prog 110 = true := by kernel_rfl
theorem rn_111 : runs Tryz.prog 111 = true := by kernel_rfl
theorem rn_112 : runs Tryz.prog 112 = true := by kernel_rfl
theorem rn_113 : runs Tryz.prog 113 = true := by kernel_rfl
theorem rn_114 : runs Tryz.prog 114 = true := by kernel_rfl
theorem rn_115 : runs Tryz.prog 115 = true := by kernel_rfl
theorem rn_116 : runs Tryz.prog 116 = true := by kernel_rfl
theorem rn_117 : runs Tryz.prog 117 = true := by kernel_rfl
theorem rn_118 : runs Tryz.prog 118 = true := by kernel_rfl
theorem rn_119 : runs Tryz.prog 119 = true := by kernel_rfl
theorem rn_120 : runs Tryz.prog 120 = true := by kernel_rfl
theorem rn_121 : runs Tryz.prog 121 = true := by kernel_rfl
theorem rn_122 : runs Tryz.prog 122 = true := by kernel_rfl
theorem rn_123 : runs Tryz.prog 123 = true := by kernel_rfl
theorem rn_124 : runs Tryz.prog 124 = true := by kernel_rfl
theorem rn_125 : runs Tryz.prog 125 = true := by kernel_rfl
theorem rn_126 : runs Tryz.prog 126 = true := by kernel_rfl
theorem rn_127 : runs Tryz.prog 127 = true := by kernel_rfl
theorem rn_128 : runs Tryz.prog 128 = true := by kernel_rfl
theorem rn_129 : runs Tryz.prog 129 = true := by kernel_rfl
theorem rn_130 : runs Tryz.prog 130 = true := by kernel_rfl
theorem rn_131 : runs Tryz.prog 131 = true := by kernel_rfl
theorem rn_132 : runs Tryz.prog 132 = true := by kernel_rfl
theorem rn_133 : runs Tryz.prog 133 = true := by kernel_rfl
theorem rn_134 : runs Tryz.prog 134 = true := by kernel_rfl
theorem rn_135 : runs Tryz.prog 135 = true := by kernel_rfl
theorem rn_136 : runs Tryz.prog 136 = true := by kernel_rfl
theorem rn_137 : runs Tryz.prog 137 = true := by kernel_rfl
theorem rn_138 : runs Tryz.prog 138 = true := by kernel_rfl
theorem rn_139 : runs Tryz.prog 139 = true := by kernel_rfl
theorem rn_140 : runs Tryz.prog 140 = true := by kernel_rfl
theorem rn_141 : runs Tryz.prog 141 = true := by kernel_rfl
theorem rn_142 : runs Tryz.prog 142 = true := by kernel_rfl
theorem rn_143 : runs Tryz.prog 143 = true := by kernel_rfl
theorem rn_144 : runs Tryz.prog 144 = true := by kernel_rfl
theorem rn_145 : runs Tryz.prog 145 = true := by kernel_rfl
theorem rn_146 : runs Tryz.prog 146 = true := by kernel_rfl
theorem rn_147 : runs Tryz.prog 147 = true := by kernel_rfl
theorem rn_148 : runs Tryz.prog 148 = true := by kernel_rfl
theorem rn_149 : runs Tryz.prog 149 = true := by kernel_rfl
theorem rn_150 : runs Tryz.prog 150 = true := by kernel_rfl
theorem rn_151 : runs Tryz.prog 151 = true := by kernel_rfl
theorem rn_152 : runs Tryz.prog 152 = true := by kernel_rfl
theorem rn_153 : runs Tryz.prog 153 = true := by kernel_rfl
theorem rn_154 : runs Tryz.prog 154 = true := by kernel_rfl
theorem rn_155 : runs Tryz.prog 155 = true := by kernel_rfl
theorem rn_156 : runs Tryz.prog 156 = true := by kernel_rfl
theorem rn_157 : runs Tryz.prog 157 = true := by kernel_rfl
theorem rn_158 : runs Tryz.prog 158 = true := by kernel_rfl
theorem rn_159 : runs Tryz.prog 159 = true := by kernel_rfl
theorem rn_160 : runs Tryz.prog 160 = true := by kernel_rfl
theorem rn_161 : runs Tryz.prog 161 = true := by kernel_rfl
theorem rn_162 : runs Tryz.prog 162 = true := by kernel_rfl
theorem rn_163 : runs Tryz.prog 163 = true := by kernel_rfl
theorem rn_164 : runs Tryz.prog 164 = true := by kernel_rfl
theorem rn_165 : runs Tryz.prog 165 = true := by kernel_rfl
theorem rn_166 : runs Tryz.prog 166 = true := by kernel_rfl
theorem rn_167 : runs Tryz.prog 167 = true := by kernel_rfl
theorem rn_168 : runs Tryz.prog 168 = true := by kernel_rfl
theorem rn_169 : runs Tryz.prog 169 = true := by kernel_rfl
theorem rn_170 : runs Tryz.prog 170 = true := by kernel_rfl
theorem rn_171 : runs Tryz.prog 171 = true := by kernel_rfl
theorem rn_172 : runs Tryz.prog 172 = true := by kernel_rfl
theorem rn_173 : runs Tryz.prog 173 = true := by kernel_rfl
theorem rn_174 : runs Tryz.prog 174 = true := by kernel_rfl
theorem rn_212 : runs Tryz.prog 212 = true := by kernel_rfl
theorem rn_213 : runs Tryz.prog 213 = true := by kernel_rfl
theorem rn_214 : runs Tryz.prog 214 = true := by kernel_rfl
theorem rn_215 : runs Tryz.prog 215 = true := by kernel_rfl
theorem hm : Tryz.prog.follows .mixedOrders = true := by kernel_rfl
end Go.Proofs.YtncleikbggjmjaaGreatDoor
/- What takes and programmes come to, in plain Lean: samples, takes, parts, places, sounds, mixes. -/
namespace Go.Proofs.YtncleikbggjmjaaGreatDoor.Take
open Go.Sx
def I64 (x : Int) : Prop := -9223372036854775808 ≤ x ∧ x ≤ 9223372036854775807
theorem I64.of {x : Int} (h : (Lit.int .i64 x).wf = true) : I64 x := by
  simp [Lit.wf, IntKind.min, IntKind.max, IntKind.signed, IntKind.bits] at h
  unfold I64; omega
theorem u8_of {x : Int} (h : (Lit.int .u8 x).wf = true) : 0 ≤ x ∧ x ≤ 255 := by
  simp [Lit.wf, IntKind.min, IntKind.max, IntKind.signed, IntKind.bits] at h
  omega
def betw (x lo hi : Int) : Bool := decide (lo ≤ x) && decide (x ≤ hi)
theorem betw_iff {x lo hi : Int} : betw x lo hi = true ↔ lo ≤ x ∧ x ≤ hi := by simp [betw]
def eI (x : Int) : List Value := [I x]
theorem eI_len (x : Int) : (eI x).length = 1 := rfl
theorem eI_one : ∀ x, ∀ u ∈ eI x, u.oneCell' = true := by intro x u hu; simp only [eI, List.mem_singleton] at hu; subst hu; rfl
/-! ### samples -/
structure Sam where
  l : Int
  r : Int
  deriving DecidableEq
instance : Inhabited Sam := ⟨⟨0, 0⟩⟩
def eSam (x : Sam) : List Value := [I x.l, I x.r]
theorem eSam_len (x : Sam) : (eSam x).length = 2 := rfl
theorem eSam_one : ∀ x, ∀ u ∈ eSam x, u.oneCell' = true := by intro x u hu; simp only [eSam, List.mem_cons, List.not_mem_nil, or_false] at hu; rcases hu with rfl | rfl <;> rfl
def Sam.wf (x : Sam) : Prop := I64 x.l ∧ I64 x.r
def Sam.ok (x : Sam) : Bool := betw x.l (-32767) 32767 && betw x.r (-32767) 32767
theorem Sam.ok_iff {x : Sam} : x.ok = true ↔ (-32767 ≤ x.l ∧ x.l ≤ 32767) ∧ (-32767 ≤ x.r ∧ x.r ≤ 32767) := by
  unfold Sam.ok; rw [Bool.and_eq_true, betw_iff, betw_iff]
def sErr (s : List Sam) : Int := if 4096 < s.length then 6 else if s.all Sam.ok = true then 0 else 2
def amt (n : Int) : Int := max n (-n)
def sad (a b : Sam) : Sam := ⟨a.l + b.l, a.r + b.r⟩
theorem getD_mem {α : Type} [Inhabited α] {l : List α} {i : Nat} (h : i < l.length) : l.getD i default ∈ l := by
  rw [List.getD, List.getElem?_eq_getElem h]; exact List.getElem_mem h
theorem all_getD {α : Type} [Inhabited α] {l : List α} {p : α → Bool} : l.all p = true ↔ ∀ i, i < l.length → p (l.getD i default) = true := by
  rw [List.all_eq_true]
  constructor
  · intro h i hi; exact h _ (getD_mem hi)
  · intro h x hx
    obtain ⟨i, hi, rfl⟩ := List.getElem_of_mem hx
    have := h i hi
    simpa [List.getD, hi] using this
theorem all_split {α : Type} [Inhabited α] {l : List α} {p : α → Bool} {i : Nat} (hi : i < l.length) (h : p (l.getD i default) = false) : l.all p = false := by
  rw [Bool.eq_false_iff]
  intro ha
  rw [all_getD.1 ha i hi] at h; cases h
/-! ### takes -/
def nmB (b : UInt8) : Bool := (decide (97 ≤ b.toNat) && decide (b.toNat ≤ 122)) || (decide (48 ≤ b.toNat) && decide (b.toNat ≤ 57))
def isNm (s : ByteArray) : Bool := decide (1 ≤ s.size) && decide (s.size ≤ 20) && s.data.toList.all nmB
structure Tk where
  name : ByteArray
  A : Option Addr
  c : Nat
  data : List Sam
instance : Inhabited Tk := ⟨⟨⟨#[]⟩, none, 0, []⟩⟩
def eTk (x : Tk) : List Value := [.string x.name, .slice x.A x.data.length x.c]
theorem eTk_len (x : Tk) : (eTk x).length = 2 := rfl
def Tk.wf (x : Tk) : Prop := x.name.size ≤ maxLen ∧ x.data.length ≤ x.c ∧ ∀ s ∈ x.data, s.wf
def Tks (w : World) (A : Option Addr) (l : List Tk) : Prop := RdL w 2 eTk A l ∧ ∀ t ∈ l, RdL w 2 eSam t.A t.data ∧ t.wf
theorem Tks.sh {w0 w : World} {A : Option Addr} {l : List Tk} {H : Items} (h : Tks w0 A l) (m : SH w0 none' H w) : Tks w A l := ⟨h.1.sh m, fun t ht => ⟨(h.2 t ht).1.sh m, (h.2 t ht).2⟩⟩
def tErr (t : Tk) : Int := if 4096 < t.data.length then 6 else if (isNm t.name && decide (t.data.length ≠ 0) && t.data.all Sam.ok) = true then 0 else 2
theorem tErr_cases (t : Tk) : tErr t = 0 ∨ tErr t = 2 ∨ tErr t = 6 := by
  unfold tErr; split
  · exact .inr (.inr rfl)
  · split
    · exact .inl rfl
    · exact .inr (.inl rfl)
theorem tErr_zero {t : Tk} : tErr t = 0 ↔ t.data.length ≤ 4096 ∧ isNm t.name = true ∧ 0 < t.data.length ∧ t.data.all Sam.ok = true := by
  unfold tErr
  split
  · constructor
    · intro h; cases h
    · intro h; omega
  · split
    · rename_i h1 h2
      rw [Bool.and_eq_true, Bool.and_eq_true, decide_eq_true_iff] at h2
      exact ⟨fun _ => ⟨by omega, h2.1.1, by omega, h2.2⟩, fun _ => rfl⟩
    · rename_i h1 h2
      rw [Bool.and_eq_true, Bool.and_eq_true, decide_eq_true_iff] at h2
      exact ⟨fun h => (by cases h), fun h => absurd ⟨⟨h.2.1, by omega⟩, h.2.2.2⟩ h2⟩
def lErr (l : List Tk) : Int :=
  if l.length < 1 ∨ 16 < l.length then 6 else if l.any (fun t => decide (tErr t = 6)) = true then 6 else if l.any (fun t => decide (tErr t ≠ 0)) = true then 2 else if (l.map Tk.name).Nodup then 0 else 12
structure TksOk (l : List Tk) : Prop where
  one : 1 ≤ l.length
  most : l.length ≤ 16
  each : ∀ t ∈ l, tErr t = 0
  apart : (l.map Tk.name).Nodup
theorem lErr_zero {l : List Tk} : lErr l = 0 ↔ TksOk l := by
  unfold lErr
  constructor
  · intro h
    split at h
    · cases h
    · rename_i h1
      split at h
      · cases h
      · split at h
        · cases h
        · rename_i h2 h3
          split at h
          · rename_i h4
            refine ⟨by omega, by omega, fun t ht => ?_, h4⟩
            rw [List.any_eq_true] at h3
            by_cases e : tErr t = 0
            · exact e
            · exact absurd ⟨t, ht, decide_eq_true e⟩ h3
          · cases h
  · intro h
    have h6 : ¬ l.any (fun t => decide (tErr t = 6)) = true := by
      rw [List.any_eq_true]; rintro ⟨t, ht, e⟩
      have := h.each t ht; rw [decide_eq_true_iff] at e; omega
    have h2 : ¬ l.any (fun t => decide (tErr t ≠ 0)) = true := by
      rw [List.any_eq_true]; rintro ⟨t, ht, e⟩
      have := h.each t ht; rw [decide_eq_true_iff] at e; omega
    have h1 := h.one
    have h3 := h.most
    rw [if_neg (by omega), if_neg h6, if_neg h2, if_pos h.apart]
/-! ### parts -/
structure Prt where
  tk : Int
  fr : Int
  to : Int
  gap : Int
  inn : Int
  out : Int
  lev : Int
  deriving DecidableEq
instance : Inhabited Prt := ⟨⟨0, 0, 0, 0, 0, 0, 0⟩⟩
def ePrt (x : Prt) : List Value := [I x.tk, I x.fr, I x.to, I x.gap, I x.inn, I x.out, I x.lev]
theorem ePrt_len (x : Prt) : (ePrt x).length = 7 := rfl
def Prt.wf (x : Prt) : Prop := (I64 x.tk ∧ I64 x.fr ∧ I64 x.to) ∧ I64 x.gap ∧ I64 x.inn ∧ I64 x.out ∧ I64 x.lev
def tkOf (l : List Tk) (x : Prt) : Tk := l.getD x.tk.toNat default
def goodP (l : List Tk) (x : Prt) : Bool :=
  decide (0 ≤ x.tk) && decide (x.tk < (l.length : Int)) && decide (0 ≤ x.fr) && decide (x.fr < x.to) && decide (x.to ≤ ((tkOf l x).data.length : Int)) && betw x.gap (-4096) 4096 && betw x.inn 0 1000 && betw x.out 0 1000 && betw x.lev 0 4000
structure PrtOk (l : List Tk) (x : Prt) : Prop where
  tk0 : 0 ≤ x.tk
  tk1 : x.tk < (l.length : Int)
  fr0 : 0 ≤ x.fr
  frto : x.fr < x.to
  to1 : x.to ≤ ((tkOf l x).data.length : Int)
  gap : -4096 ≤ x.gap ∧ x.gap ≤ 4096
  inn : 0 ≤ x.inn ∧ x.inn ≤ 1000
  out : 0 ≤ x.out ∧ x.out ≤ 1000
  lev : 0 ≤ x.lev ∧ x.lev ≤ 4000
theorem goodP_iff {l : List Tk} {x : Prt} : goodP l x = true ↔ PrtOk l x := by
  unfold goodP
  simp only [Bool.and_eq_true, betw_iff, decide_eq_true_iff]
  constructor
  · rintro ⟨⟨⟨⟨⟨⟨⟨⟨h1, h2⟩, h3⟩, h4⟩, h5⟩, h6⟩, h7⟩, h8⟩, h9⟩; exact ⟨h1, h2, h3, h4, h5, h6, h7, h8, h9⟩
  · rintro ⟨h1, h2, h3, h4, h5, h6, h7, h8, h9⟩; exact ⟨⟨⟨⟨⟨⟨⟨⟨h1, h2⟩, h3⟩, h4⟩, h5⟩, h6⟩, h7⟩, h8⟩, h9⟩
def fin (p : List Prt) : Int := (p.map fun x => x.gap + (x.to - x.fr)).sum
def pt (p : List Prt) (i : Nat) : Prt := p.getD i default
def lng (x : Prt) : Int := x.to - x.fr
def bgn (p : List Prt) (i : Nat) : Int := fin (p.take i) + (pt p i).gap
def en (p : List Prt) (i : Nat) : Int := bgn p i + lng (pt p i)
theorem take_succ {p : List Prt} {i : Nat} (hi : i < p.length) : p.take (i + 1) = p.take i ++ [pt p i] := by
  rw [List.take_add_one, List.getElem?_eq_getElem hi]; simp [pt, List.getD, hi]
theorem fin_app (p q : List Prt) : fin (p ++ q) = fin p + fin q := by unfold fin; rw [List.map_append, List.sum_append]
theorem fin_one (x : Prt) : fin [x] = x.gap + lng x := by unfold fin lng; simp
theorem fin_take {p : List Prt} {i : Nat} (hi : i < p.length) : fin (p.take (i + 1)) = en p i := by
  rw [take_succ hi, fin_app, fin_one]; unfold en bgn; omega
theorem fin_all (p : List Prt) : fin (p.take p.length) = fin p := by rw [List.take_length]
def posOk (p : List Prt) (i : Nat) : Prop := (i = 0 → 0 ≤ bgn p i) ∧ (0 < i → bgn p (i - 1) ≤ bgn p i ∧ en p (i - 1) ≤ en p i) ∧ (1 < i → en p (i - 2) ≤ bgn p i)
instance (p : List Prt) (i : Nat) : Decidable (posOk p i) := inferInstanceAs (Decidable (_ ∧ _))
def Poss (p : List Prt) : Prop := (∀ i, i < p.length → posOk p i) ∧ fin p ≤ 4096
instance (p : List Prt) : Decidable (Poss p) := inferInstanceAs (Decidable ((∀ i, i < p.length → posOk p i) ∧ fin p ≤ 4096))
def gErr (l : List Tk) (p : List Prt) : Int := if lErr l = 0 then (if 32 < p.length then 6 else if p.all (goodP l) = true then (if Poss p then 0 else 15) else 2) else lErr l
structure ProgOk (l : List Tk) (p : List Prt) : Prop where
  tks : TksOk l
  most : p.length ≤ 32
  each : ∀ i, i < p.length → PrtOk l (pt p i)
  pos : ∀ i, i < p.length → posOk p i
  fin : fin p ≤ 4096
theorem gErr_zero {l : List Tk} {p : List Prt} : gErr l p = 0 ↔ ProgOk l p := by
  unfold gErr
  constructor
  · intro h
    split at h
    · rename_i h0
      split at h
      · cases h
      · split at h
        · rename_i h1 h2
          split at h
          · rename_i h3
            exact ⟨lErr_zero.1 h0, by omega, fun i hi => goodP_iff.1 (all_getD.1 h2 i hi), h3.1, h3.2⟩
          · cases h
        · cases h
    · contradiction
  · rintro ⟨h1, h2, h3, h4, h5⟩
    rw [if_pos (lErr_zero.2 h1), if_neg (by omega), if_pos (all_getD.2 fun i hi => goodP_iff.2 (h3 i hi)), if_pos ⟨h4, h5⟩]
theorem lng_pos {l : List Tk} {x : Prt} (h : PrtOk l x) : 0 < lng x := by unfold lng; have := h.frto; omega
theorem bgn_nn {p : List Prt} {n : Nat} (h : ∀ i, i < n → posOk p i) : ∀ i, i < n → 0 ≤ bgn p i := by
  intro i
  induction i with
  | zero => intro hi; exact (h 0 hi).1 rfl
  | succ i ih => intro hi; have h1 := ih (by omega); have h2 := ((h (i + 1) hi).2.1 (by omega)).1; simp only [Nat.add_sub_cancel] at h2; omega
theorem bgn_mono {l : List Tk} {p : List Prt} (h : ProgOk l p) : ∀ i, i < p.length → 0 ≤ bgn p i := by
  intro i
  induction i with
  | zero => intro hi; exact (h.pos 0 hi).1 rfl
  | succ i ih => intro hi; have h1 := ih (by omega); have h2 := ((h.pos (i + 1) hi).2.1 (by omega)).1; simp only [Nat.add_sub_cancel] at h2; omega
theorem en_mono {l : List Tk} {p : List Prt} (h : ProgOk l p) : ∀ i j, i ≤ j → j < p.length → en p i ≤ en p j := by
  intro i j hij
  induction j with
  | zero => intro _; rw [show i = 0 by omega]; exact Int.le_refl _
  | succ j ih =>
    intro hj
    by_cases e : i = j + 1
    · rw [e]; exact Int.le_refl _
    · have h1 := ih (by omega) (by omega)
      have h2 := ((h.pos (j + 1) hj).2.1 (by omega)).2
      simp only [Nat.add_sub_cancel] at h2; omega
theorem en_fin {l : List Tk} {p : List Prt} (h : ProgOk l p) {i : Nat} (hi : i < p.length) : en p i ≤ fin p := by
  have h1 := en_mono h i (p.length - 1) (by omega) (by omega)
  have h2 := fin_take (p := p) (i := p.length - 1) (by omega)
  rw [show p.length - 1 + 1 = p.length by omega, fin_all] at h2
  omega
theorem fin_nonneg {l : List Tk} {p : List Prt} (h : ProgOk l p) : 0 ≤ fin p := by
  rcases Nat.eq_zero_or_pos p.length with h0 | h0
  · rw [List.length_eq_zero_iff.1 h0]; exact Int.le_refl _
  · have h1 := en_fin h h0
    have h2 := bgn_mono h 0 h0
    have h3 := lng_pos (h.each 0 h0)
    unfold en at h1; omega
structure Plc where
  prt : Prt
  ix : Int
  b : Int
  e : Int
instance : Inhabited Plc := ⟨⟨default, 0, 0, 0⟩⟩
def ePlc (x : Plc) : List Value := [I x.prt.tk, I x.prt.fr, I x.prt.to, I x.prt.gap, I x.prt.inn, I x.prt.out, I x.prt.lev, I x.ix, I x.b, I x.e]
theorem ePlc_len (x : Plc) : (ePlc x).length = 10 := rfl
theorem ePlc_one : ∀ x, ∀ u ∈ ePlc x, u.oneCell' = true := by intro x u hu; simp only [ePlc, List.mem_cons, List.not_mem_nil, or_false] at hu; rcases hu with rfl | rfl | rfl | rfl | rfl | rfl | rfl | rfl | rfl | rfl <;> rfl
def plc (p : List Prt) (i : Nat) : Plc := ⟨pt p i, i, bgn p i, en p i⟩
def plcs (p : List Prt) (n : Nat) : List Plc := (List.range n).map (plc p)
theorem ePlc_plc (p : List Prt) (i : Nat) : ePlc (plc p i) = [I (pt p i).tk, I (pt p i).fr, I (pt p i).to, I (pt p i).gap, I (pt p i).inn, I (pt p i).out, I (pt p i).lev, I i, I (bgn p i), I (en p i)] := rfl
theorem plcs_len (p : List Prt) (n : Nat) : (plcs p n).length = n := by simp [plcs]
theorem plcs_succ (p : List Prt) (n : Nat) : plcs p (n + 1) = plcs p n ++ [plc p n] := by simp [plcs, List.range_succ]
theorem plcs_get {p : List Prt} {n i : Nat} (hi : i < n) : (plcs p n).getD i default = plc p i := by simp [plcs, List.getD, hi]
/-! ### sounds -/
def up (x : Prt) (k : Int) : Int := min k x.inn + 1
def dn (x : Prt) (k : Int) : Int := min (lng x - k - 1) x.out + 1
def gnN (x : Prt) (k lev : Int) : Int := lev * up x k * dn x k
def gnD (x : Prt) : Int := 1000 * (x.inn + 1) * (x.out + 1)
def ld (s : Int) (x : Prt) (k lev : Int) : Int := (s * gnN x k lev).tdiv (gnD x)
def smp (l : List Tk) (x : Prt) (k : Int) : Sam := (tkOf l x).data.getD (x.fr + k).toNat default
def snd (l : List Tk) (x : Prt) (k lev : Int) : Sam := ⟨ld (smp l x k).l x k lev, ld (smp l x k).r x k lev⟩
theorem up_bd {l : List Tk} {x : Prt} (h : PrtOk l x) {k : Int} (h0 : 0 ≤ k) : 1 ≤ up x k ∧ up x k ≤ x.inn + 1 := by
  unfold up; have := h.inn; omega
theorem dn_bd {l : List Tk} {x : Prt} (h : PrtOk l x) {k : Int} (h1 : k < lng x) : 1 ≤ dn x k ∧ dn x k ≤ x.out + 1 := by
  unfold dn; have := h.out; omega
theorem mul_bd {a b A B : Int} (h0 : 0 ≤ a) (h1 : a ≤ A) (h2 : 0 ≤ b) (h3 : b ≤ B) : 0 ≤ a * b ∧ a * b ≤ A * B := ⟨Int.mul_nonneg h0 h2, Int.mul_le_mul h1 h3 h2 (by omega)⟩
theorem gnD_pos {l : List Tk} {x : Prt} (h : PrtOk l x) : 1000 ≤ gnD x ∧ gnD x ≤ 1002001000 := by
  unfold gnD
  have h1 := h.inn; have h2 := h.out
  have := mul_bd (a := x.inn + 1 - 1) (b := x.out + 1 - 1) (A := 1000) (B := 1000) (by omega) (by omega) (by omega) (by omega)
  have e : 1000 * (x.inn + 1) * (x.out + 1) = 1000 * ((x.inn + 1 - 1) * (x.out + 1 - 1)) + 1000 * x.inn + 1000 * x.out + 1000 := by
    rw [show x.inn + 1 - 1 = x.inn by omega, show x.out + 1 - 1 = x.out by omega, Int.mul_assoc, Int.add_mul, Int.mul_add]; simp only [Int.mul_add, Int.one_mul, Int.mul_one]; omega
  omega
theorem gnN_bd {l : List Tk} {x : Prt} (h : PrtOk l x) {k lev : Int} (h0 : 0 ≤ k) (h1 : k < lng x) (h2 : 0 ≤ lev) : 0 ≤ gnN x k lev ∧ 1000 * gnN x k lev ≤ lev * gnD x := by
  have hu := up_bd h h0
  have hd := dn_bd h h1
  have a1 := mul_bd (a := up x k) (b := dn x k) (by omega) hu.2 (by omega) hd.2
  have a2 := mul_bd (a := lev) (b := up x k * dn x k) h2 (Int.le_refl _) a1.1 a1.2
  unfold gnN gnD
  rw [Int.mul_assoc lev]
  refine ⟨a2.1, ?_⟩
  rw [Int.mul_assoc 1000, Int.mul_left_comm lev 1000]
  exact Int.mul_le_mul_of_nonneg_left a2.2 (by omega)
theorem tdiv_bd {a d c : Int} (hd : 0 < d) (hc : 0 ≤ c) (h : 1000 * amt a ≤ c * d) : 1000 * amt (a.tdiv d) ≤ c := by
  rcases Int.le_total 0 a with h0 | h0
  · have e : amt a = a := by unfold amt; omega
    have q0 : 0 ≤ a.tdiv d := Int.tdiv_nonneg h0 (by omega)
    have e2 : amt (a.tdiv d) = a.tdiv d := by unfold amt; omega
    rw [e] at h; rw [e2]
    have h1 : a.tdiv d * d ≤ a := by rw [Int.tdiv_eq_ediv_of_nonneg h0]; exact Int.ediv_mul_le a (by omega)
    have h2 : (1000 * a.tdiv d) * d ≤ c * d := by rw [Int.mul_assoc]; omega
    exact Int.le_of_mul_le_mul_right h2 hd
  · have e : amt a = -a := by unfold amt; omega
    have hn : a.tdiv d = -((-a).tdiv d) := by rw [Int.neg_tdiv, Int.neg_neg]
    have q0 : 0 ≤ (-a).tdiv d := Int.tdiv_nonneg (by omega) (by omega)
    have e2 : amt (a.tdiv d) = (-a).tdiv d := by unfold amt; omega
    rw [e] at h; rw [e2]
    have h1 : (-a).tdiv d * d ≤ -a := by rw [Int.tdiv_eq_ediv_of_nonneg (by omega)]; exact Int.ediv_mul_le (-a) (by omega)
    have h2 : (1000 * (-a).tdiv d) * d ≤ c * d := by rw [Int.mul_assoc]; omega
    exact Int.le_of_mul_le_mul_right h2 hd
theorem amt_mul {a b : Int} (hb : 0 ≤ b) : amt (a * b) = amt a * b := by
  unfold amt
  rcases Int.le_total 0 a with h | h
  · have := Int.mul_nonneg h hb
    rw [Int.max_eq_left (by omega), Int.max_eq_left (by omega)]
  · have h1 : a * b ≤ 0 := by have := Int.mul_nonneg (a := -a) (by omega) hb; rw [Int.neg_mul] at this; omega
    rw [Int.max_eq_right (by omega), Int.max_eq_right (by omega), Int.neg_mul]
theorem amt_nonneg (a : Int) : 0 ≤ amt a := by unfold amt; omega
theorem ld_bd {l : List Tk} {x : Prt} (h : PrtOk l x) {s k lev : Int} (h0 : 0 ≤ k) (h1 : k < lng x) (h2 : 0 ≤ lev) : 1000 * amt (ld s x k lev) ≤ amt s * lev := by
  have hg := gnN_bd h h0 h1 h2
  have hd := (gnD_pos h).1
  unfold ld
  refine tdiv_bd (by omega) (Int.mul_nonneg (amt_nonneg s) h2) ?_
  rw [amt_mul hg.1, ← Int.mul_assoc, Int.mul_comm 1000, Int.mul_assoc, Int.mul_assoc]
  exact Int.mul_le_mul_of_nonneg_left hg.2 (amt_nonneg s)
/-! ### mixes -/
def mixN (p : List Prt) (v : Nat → Int → Sam) : Nat → Int → Sam
  | 0, _ => ⟨0, 0⟩
  | n + 1, t => if bgn p n ≤ t ∧ t < en p n then sad (mixN p v n t) (v n (t - bgn p n)) else mixN p v n t
def mix (p : List Prt) (v : Nat → Int → Sam) : List Sam := (List.range (fin p).toNat).map fun (t : Nat) => mixN p v p.length t
def vR (l : List Tk) (p : List Prt) (i : Nat) (k : Int) : Sam := snd l (pt p i) k (pt p i).lev
def rend (l : List Tk) (p : List Prt) : List Sam := mix p (vR l p)
def rErr (l : List Tk) (p : List Prt) : Int := if gErr l p = 0 then (if sErr (rend l p) = 0 then 0 else 4) else gErr l p
def rendL (l : List Tk) (p : List Prt) : List Sam := if rErr l p = 0 then rend l p else []
theorem mix_len (p : List Prt) (v : Nat → Int → Sam) : (mix p v).length = (fin p).toNat := by simp [mix]
def Sam.bd (s : Sam) (B : Int) : Prop := (-B ≤ s.l ∧ s.l ≤ B) ∧ (-B ≤ s.r ∧ s.r ≤ B)
theorem mixN_bd {p : List Prt} {v : Nat → Int → Sam} {B : Int} (hB : 0 ≤ B) : ∀ n t, n ≤ p.length → (∀ i k, i < p.length → 0 ≤ k → k < lng (pt p i) → (v i k).bd B) → (mixN p v n t).bd (n * B) := by
  intro n t hn hv
  induction n with
  | zero => exact ⟨⟨by simp [mixN], by simp [mixN]⟩, ⟨by simp [mixN], by simp [mixN]⟩⟩
  | succ n ih =>
    have hi := ih (by omega)
    have e : ((n + 1 : Nat) : Int) * B = n * B + B := by rw [Int.natCast_succ, Int.add_mul, Int.one_mul]
    rw [e]
    unfold mixN
    unfold Sam.bd at hi ⊢
    split
    · rename_i h
      have hb := hv n (t - bgn p n) (by omega) (by omega) (by have := h.2; unfold en at this; omega)
      unfold Sam.bd at hb
      simp only [sad]
      omega
    · omega
theorem Sam.bd.mono {s : Sam} {B C : Int} (h : s.bd B) (hb : B ≤ C) : s.bd C := by unfold Sam.bd at h ⊢; omega
def mixS (p : List Prt) (v : Nat → Int → Sam) (i : Nat) (t : Int) : List Sam := (List.range (fin p).toNat).map fun (s : Nat) => if bgn p i ≤ s ∧ (s : Int) < t then mixN p v (i + 1) s else mixN p v i s
def mixP (p : List Prt) (v : Nat → Int → Sam) (i : Nat) : List Sam := (List.range (fin p).toNat).map fun (s : Nat) => mixN p v i s
theorem mixS_len (p : List Prt) (v : Nat → Int → Sam) (i : Nat) (t : Int) : (mixS p v i t).length = (fin p).toNat := by simp [mixS]
theorem mixP_zero (p : List Prt) (v : Nat → Int → Sam) : mixP p v 0 = List.replicate (fin p).toNat ⟨0, 0⟩ := by
  unfold mixP
  rw [List.eq_replicate_iff]
  refine ⟨by simp, fun b hb => ?_⟩
  obtain ⟨i, _, rfl⟩ := List.mem_map.1 hb
  rfl
theorem mixS_begin (p : List Prt) (v : Nat → Int → Sam) (i : Nat) : mixS p v i (bgn p i) = mixP p v i := by
  unfold mixS mixP
  apply List.map_congr_left
  intro s _
  rw [if_neg (by omega)]
theorem mixS_end (p : List Prt) (v : Nat → Int → Sam) (i : Nat) : mixS p v i (en p i) = mixP p v (i + 1) := by
  unfold mixS mixP
  apply List.map_congr_left
  intro s _
  by_cases h : bgn p i ≤ s ∧ (s : Int) < en p i
  · rw [if_pos h]
  · rw [if_neg h]; conv => rhs; rw [mixN, if_neg h]
theorem mixS_at {p : List Prt} {v : Nat → Int → Sam} {i t : Nat} (h : t < (fin p).toNat) : (mixS p v i t).getD t default = mixN p v i t := by
  simp [mixS, List.getD, h]
theorem mixS_set {p : List Prt} {v : Nat → Int → Sam} {i t : Nat} (h : t < (fin p).toNat) (h1 : bgn p i ≤ t) (h2 : (t : Int) < en p i) : (mixS p v i t).set t (sad (mixN p v i t) (v i (t - bgn p i))) = mixS p v i ((t : Int) + 1) := by
  apply List.ext_getElem (by simp [mixS])
  intro q h3 h4
  rw [List.getElem_set]
  simp only [mixS, List.getElem_map, List.getElem_range]
  by_cases e : t = q
  · subst e
    rw [if_pos rfl, if_pos ⟨h1, by omega⟩]
    conv => rhs; rw [mixN, if_pos ⟨h1, h2⟩]
  · rw [if_neg e]
    by_cases hc : bgn p i ≤ (q : Int) ∧ (q : Int) < t
    · rw [if_pos hc, if_pos ⟨hc.1, by omega⟩]
    · rw [if_neg hc, if_neg (by omega)]
theorem mixP_all (p : List Prt) (v : Nat → Int → Sam) : mixP p v p.length = mix p v := rfl
theorem smp_ok {l : List Tk} {x : Prt} (hl : TksOk l) (h : PrtOk l x) {k : Int} (h0 : 0 ≤ k) (h1 : k < lng x) : (x.fr + k).toNat < (tkOf l x).data.length ∧ x.tk.toNat < l.length ∧ (-32767 ≤ (smp l x k).l ∧ (smp l x k).l ≤ 32767) ∧ (-32767 ≤ (smp l x k).r ∧ (smp l x k).r ≤ 32767) := by
  have a := h.tk0; have b := h.tk1; have c := h.fr0; have d := h.frto; have e := h.to1
  unfold lng at h1
  have h2 : (x.fr + k).toNat < (tkOf l x).data.length := by omega
  have h3 : x.tk.toNat < l.length := by omega
  have h4 := (tErr_zero.1 (hl.each _ (getD_mem h3))).2.2.2
  have h5 := Sam.ok_iff.1 (all_getD.1 h4 _ h2)
  exact ⟨h2, h3, h5⟩
theorem snd_bd {l : List Tk} {x : Prt} (hl : TksOk l) (h : PrtOk l x) {k lev : Int} (h0 : 0 ≤ k) (h1 : k < lng x) (h2 : 0 ≤ lev) (h3 : lev ≤ 16000) : (snd l x k lev).bd 1000000 := by
  obtain ⟨_, _, s1, s2⟩ := smp_ok hl h h0 h1
  have b1 := ld_bd h (s := (smp l x k).l) h0 h1 h2
  have b2 := ld_bd h (s := (smp l x k).r) h0 h1 h2
  have c1 := mul_bd (amt_nonneg (smp l x k).l) (A := 32767) (by unfold amt; omega) h2 h3
  have c2 := mul_bd (amt_nonneg (smp l x k).r) (A := 32767) (by unfold amt; omega) h2 h3
  have d1 : 1000 * amt (ld (smp l x k).l x k lev) ≤ 524272000 := by omega
  have d2 : 1000 * amt (ld (smp l x k).r x k lev) ≤ 524272000 := by omega
  unfold amt at d1 d2
  unfold Sam.bd snd
  dsimp only
  omega
end Go.Proofs.YtncleikbggjmjaaGreatDoor.Take
/- Silences, in plain Lean; names that are apart. -/
namespace Go.Proofs.YtncleikbggjmjaaGreatDoor.Take
open Go.Sx
/-! ### silences -/
abbrev Iv := Int × Int
def quiet (a : Int) (x : Sam) : Bool := decide (amt x.l ≤ a) && decide (amt x.r ≤ a)
def addIv (least : Int) (out : List Iv) (fr to : Int) : List Iv := if least ≤ to - fr then out ++ [(fr, to)] else out
def silN (s : List Sam) (a least : Int) : Nat → List Iv × Nat
  | 0 => ([], 0)
  | n + 1 => if quiet a (s.getD n default) = true then silN s a least n else (addIv least (silN s a least n).1 (silN s a least n).2 n, n + 1)
def sil (s : List Sam) (a least : Int) : List Iv := addIv least (silN s a least s.length).1 (silN s a least s.length).2 s.length
theorem addIv_len {least : Int} {out : List Iv} {fr to : Int} : (addIv least out fr to).length ≤ out.length + 1 := by unfold addIv; split <;> simp
theorem silN_len {s : List Sam} {a least : Int} : ∀ n, (silN s a least n).1.length ≤ n := by
  intro n
  induction n with
  | zero => exact Nat.le_refl _
  | succ n ih =>
    rw [silN]; split
    · omega
    · dsimp only; have := addIv_len (least := least) (out := (silN s a least n).1) (fr := (silN s a least n).2) (to := n); omega
theorem sil_len {s : List Sam} {a least : Int} : (sil s a least).length ≤ s.length + 1 := by
  unfold sil
  have h1 := addIv_len (least := least) (out := (silN s a least s.length).1) (fr := (silN s a least s.length).2) (to := s.length)
  have h2 := silN_len (s := s) (a := a) (least := least) s.length
  omega
def iErr (s : List Sam) (a least : Int) : Int := if sErr s = 0 then (if (betw a 0 32767 && betw least 1 4096) = true then 0 else 3) else sErr s
def silL (s : List Sam) (a least : Int) : List Iv := if iErr s a least = 0 then sil s a least else []
/-! ### names that are apart -/
instance decMem (k : ByteArray) (ks : List ByteArray) : Decidable (k ∈ ks) := decidable_of_iff ((ks.any fun x => decide (x = k)) = true) (by simp)
def kad (ks : List ByteArray) (k : ByteArray) : List ByteArray := if k ∈ ks then ks else ks ++ [k]
def uniq : List ByteArray → List ByteArray := List.foldl kad []
theorem uniq_snoc (l : List ByteArray) (k : ByteArray) : uniq (l ++ [k]) = kad (uniq l) k := by unfold uniq; rw [List.foldl_append]; rfl
theorem kad_mem {ks : List ByteArray} {k x : ByteArray} : x ∈ kad ks k ↔ x ∈ ks ∨ x = k := by
  unfold kad
  split
  · rename_i h; constructor
    · exact .inl
    · rintro (h2 | rfl); exact h2; exact h
  · simp
theorem uniq_rev (P : List ByteArray → Prop) (h0 : P []) (h1 : ∀ l k, P l → P (l ++ [k])) : ∀ l, P l := by
  intro l
  have : ∀ n, ∀ l : List ByteArray, l.length = n → P l := by
    intro n
    induction n with
    | zero => intro l hl; rw [List.length_eq_zero_iff.1 hl]; exact h0
    | succ n ih =>
      intro l hl
      have hne : l ≠ [] := by intro e; rw [e] at hl; cases hl
      rw [← List.dropLast_concat_getLast hne]
      exact h1 _ _ (ih _ (by simp [hl]))
  exact this _ l rfl
theorem uniq_mem (l : List ByteArray) : ∀ x, x ∈ uniq l ↔ x ∈ l := by
  refine uniq_rev (fun l => ∀ x, x ∈ uniq l ↔ x ∈ l) (by simp [uniq]) ?_ l
  intro l k ih x
  rw [uniq_snoc, kad_mem, ih]; simp
theorem uniq_len (l : List ByteArray) : (uniq l).length ≤ l.length ∧ ((uniq l).length = l.length ↔ l.Nodup) := by
  refine uniq_rev (fun l => (uniq l).length ≤ l.length ∧ ((uniq l).length = l.length ↔ l.Nodup)) (by simp [uniq]) ?_ l
  intro l k ⟨ih1, ih2⟩
  rw [uniq_snoc]
  have hm := uniq_mem l k
  unfold kad
  rw [List.nodup_append]
  split
  · rename_i h
    refine ⟨by simp; omega, ⟨fun e => ?_, fun e => ?_⟩⟩
    · simp at e; omega
    · exact absurd rfl (e.2.2 k (hm.1 h) k (List.mem_singleton.2 rfl))
  · rename_i h
    refine ⟨by simp; omega, ⟨fun e => ?_, fun e => ?_⟩⟩
    · simp at e
      refine ⟨ih2.1 e, by simp, fun a ha b hb => ?_⟩
      rw [List.mem_singleton] at hb; subst hb; rintro rfl; exact h (hm.2 ha)
    · simp; exact ih2.2 e.1
theorem mput_keys (ks : List KV) (k : ByteArray) (z : Int) : (mput ks k z).map (·.1) = kad (ks.map (·.1)) k := by
  unfold mput kad
  cases h : midx ks k with
  | none => rw [if_neg (midx_none.1 h)]; simp
  | some i =>
    have hi := midx_some h
    rw [if_pos]
    · apply List.ext_getElem (by simp)
      intro j h1 h2
      simp only [List.getElem_map, List.getElem_set]
      split
      · rename_i e; subst e; rw [← hi.2]; simp [List.getD, hi.1]
      · rfl
    · rw [List.mem_map]
      exact ⟨ks.getD i default, getD_mem hi.1, hi.2⟩
theorem mget_bd {ks : List KV} {k : ByteArray} {B : Int} (h : ∀ e ∈ ks, 0 ≤ e.2 ∧ e.2 ≤ B) (hB : 0 ≤ B) : 0 ≤ mget ks k ∧ mget ks k ≤ B := by
  unfold mget
  cases hq : midx ks k with
  | none => exact ⟨Int.le_refl _, hB⟩
  | some i => exact h _ (getD_mem (midx_some hq).1)
theorem mput_bd {ks : List KV} {k : ByteArray} {z B : Int} (h : ∀ e ∈ ks, 0 ≤ e.2 ∧ e.2 ≤ B) (hz : 0 ≤ z ∧ z ≤ B) : ∀ e ∈ mput ks k z, 0 ≤ e.2 ∧ e.2 ≤ B := by
  unfold mput
  intro e he
  cases hq : midx ks k with
  | none =>
    rw [hq] at he
    rcases List.mem_append.1 he with he | he
    · exact h e he
    · rw [List.mem_singleton.1 he]; exact hz
  | some i =>
    rw [hq] at he
    rcases List.mem_or_eq_of_mem_set he with he | rfl
    · exact h e he
    · exact hz
end Go.Proofs.YtncleikbggjmjaaGreatDoor.Take
